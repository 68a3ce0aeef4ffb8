-- PRINTED by print.py (a twelfth state) out of the translation. Not trusted: Lean checks it.
import Derived.Test.YtfjjlipfjddaiaaBo0
import Derived.Test.YtfjjlipfjddaiaaBo10
import Derived.Test.YtfjjlipfjddaiaaBo16
import Derived.Test.YtfjjlipfjddaiaaBo18
namespace Go.Proofs.Ytfjjlipfjddaiaa.Bo
open Go.RowKit Go.Proofs.YtfjjlipfjddaiaaW.PrintWords Go.Proofs.YtfjjlipfjddaiaaW.PrintLast Go.Proofs.YtfjjlipfjddaiaaW.PrintMore
attribute [local go_sem] max2_int min2_int max_two min_two max_three min_three max_four min_four   -- for this text's walks alone
set_option linter.unusedVariables false
set_option linter.unusedSimpArgs false

/-! ### impl_LimitWant: function 54 -/
def impl_LimitWant.j0 : Nat → List (S103) → Int → Int → Int → Bool → List (S96) → Int → Int → List (S96) → Int → Int → Int → Int → Option (Int)
  | 0, _, _, _, _, _, _, _, _, _, _, _, _, _ => none
  | k + 1, x1, x2, x3, x4, x20, x446000, x446001, x446002, x446003, x446004, x446005, x446006, x446007 => if x20 = true then (some (-1)) else ((impl_UpBound.f k x446000 x446001 x446002 x1 x2 x3).bind fun t448 => ((impl_DownBound.f k x446003 x446004 x446005 x1 x2 x3).bind fun t449 => (if t448 < 0 then (some (-1)) else (if t449 < 0 then (some (-1)) else (some (mn (mx (mn (mx x4 t449) t448) x446006) x446007))))))
def impl_LimitWant.f (k : Nat) (l0_0 : List (S96)) (a0_1 : Int) (a0_2 : Int) (l0_3 : List (S96)) (a0_4 : Int) (a0_5 : Int) (a0_6 : Int) (a0_7 : Int) (l1 : List (S103)) (a2 : Int) (a3 : Int) (a4 : Int) : Option (Int) := (impl_BehaveOk.f k l0_0 a0_1 a0_2 l0_3 a0_4 a0_5 a0_6 a0_7).bind fun t446 => (if t446 = true then ((impl_isCount.f a4).bind fun t447 => (impl_LimitWant.j0 k l1 a2 a3 a4 (!t447) l0_0 a0_1 a0_2 l0_3 a0_4 a0_5 a0_6 a0_7)) else (impl_LimitWant.j0 k l1 a2 a3 a4 true l0_0 a0_1 a0_2 l0_3 a0_4 a0_5 a0_6 a0_7))
theorem impl_LimitWant.mono_l : ∀ k, (∀ y0 y1 y2 y3 y4 y5 y6 y7 y8 y9 y10 y11 y12, LeO (impl_LimitWant.j0 k y0 y1 y2 y3 y4 y5 y6 y7 y8 y9 y10 y11 y12) (impl_LimitWant.j0 (k + 1) y0 y1 y2 y3 y4 y5 y6 y7 y8 y9 y10 y11 y12))
  | 0 => fun _ _ _ _ _ _ _ _ _ _ _ _ _ r h => by simp [impl_LimitWant.j0] at h
  | k + 1 => by
    have ih0 := impl_LimitWant.mono_l k
    · intro y0 y1 y2 y3 y4 y5 y6 y7 y8 y9 y10 y11 y12
      unfold impl_LimitWant.j0
      repeat' with_reducible first | exact ih0 _ _ _ _ _ _ _ _ _ _ _ _ _ | exact impl_BehaveOk.mono _ _ _ _ _ _ _ _ _ | exact impl_DownBound.mono _ _ _ _ _ _ _ | exact impl_UpBound.mono _ _ _ _ _ _ _ | exact LeO.refl _ | exact LeO.none _ | refine LeO.ite ?_ ?_ | refine LeO.bind ?_ (fun _ => ?_)
theorem impl_LimitWant.mono : ∀ a0 a1 a2 a3 a4 a5 a6 a7 a8 a9 a10 a11 k, LeO (impl_LimitWant.f k a0 a1 a2 a3 a4 a5 a6 a7 a8 a9 a10 a11) (impl_LimitWant.f (k + 1) a0 a1 a2 a3 a4 a5 a6 a7 a8 a9 a10 a11) := by
  intro a0 a1 a2 a3 a4 a5 a6 a7 a8 a9 a10 a11 k
  have ih0 := impl_LimitWant.mono_l k
  unfold impl_LimitWant.f
  repeat' with_reducible first | exact ih0 _ _ _ _ _ _ _ _ _ _ _ _ _ | exact impl_BehaveOk.mono _ _ _ _ _ _ _ _ _ | exact impl_DownBound.mono _ _ _ _ _ _ _ | exact impl_UpBound.mono _ _ _ _ _ _ _ | exact LeO.refl _ | exact LeO.none _ | refine LeO.ite ?_ ?_ | refine LeO.bind ?_ (fun _ => ?_)
def impl_LimitWant.T3 : Bool × List (List Nat × List Nat) := (true, [([], []), ([0], [0]), ([], []), ([], []), ([], []), ([1, 2, 3, 4], [1, 2, 3, 4]), ([], []), ([6], [6]), ([], []), ([], []), ([], []), ([7, 8, 9, 10, 5], [7, 8, 9, 10]), ([5, 11, 0, 1, 2, 3, 4, 5], [5]), ([11, 12, 0, 1, 2, 3, 4, 5, 6, 7, 8, 9, 10, 11, 12], [11])])
def impl_LimitWant.B3 : List Nat := [0, 1, 0, 0, 0, 31, 0, 64, 0, 0, 0, 2047, 4095, 8191]
theorem impl_LimitWant.tab3 : rtab .any (opsOf Try.f54 3) = impl_LimitWant.T3 := by kernel_rfl
theorem impl_LimitWant.bits3 : waitsOk impl_LimitWant.T3.2 impl_LimitWant.B3 = true := by kernel_rfl
abbrev impl_LimitWant.d0 : Array Bool := #[false, false, false, false, false, false, false, false, false, false, false, false, false, false]
abbrev impl_LimitWant.d1 : Array Bool := #[true, false, false, false, false, false, false, false, false, false, false, false, false, false]
abbrev impl_LimitWant.d2 : Array Bool := #[true, false, true, false, false, false, false, false, false, false, false, false, false, false]
abbrev impl_LimitWant.d3 : Array Bool := #[true, false, true, true, false, false, false, false, false, false, false, false, false, false]
abbrev impl_LimitWant.d4 : Array Bool := #[true, false, true, true, true, false, false, false, false, false, false, false, false, false]
abbrev impl_LimitWant.d5 : Array Bool := #[true, false, true, true, true, false, true, false, false, false, false, false, false, false]
abbrev impl_LimitWant.d6 : Array Bool := #[true, false, true, true, true, false, true, false, true, false, false, false, false, false]
abbrev impl_LimitWant.d7 : Array Bool := #[true, false, true, true, true, false, true, false, true, true, false, false, false, false]
abbrev impl_LimitWant.d8 : Array Bool := #[true, false, true, true, true, false, true, false, true, true, true, false, false, false]
abbrev impl_LimitWant.d9 : Array Bool := #[true, true, true, true, true, false, true, false, true, true, true, false, false, false]
abbrev impl_LimitWant.d10 : Array Bool := #[true, true, true, true, true, false, true, true, true, true, true, false, false, false]
abbrev impl_LimitWant.d11 : Array Bool := #[true, true, true, true, true, true, true, true, true, true, true, false, false, false]
abbrev impl_LimitWant.d12 : Array Bool := #[true, true, true, true, true, true, true, true, true, true, true, true, false, false]
abbrev impl_LimitWant.d13 : Array Bool := #[true, true, true, true, true, true, true, true, true, true, true, true, true, false]
abbrev impl_LimitWant.d14 : Array Bool := #[true, true, true, true, true, true, true, true, true, true, true, true, true, true]
set_option maxHeartbeats 8000000 in
set_option maxRecDepth 100000 in
theorem impl_LimitWant.calls (k : Nat) (A0_0 : Option Addr) (c0_0 : Nat) (l0_0 : List (S96)) (a0_1 : Int) (a0_2 : Int) (A0_3 : Option Addr) (c0_3 : Nat) (l0_3 : List (S96)) (a0_4 : Int) (a0_5 : Int) (a0_6 : Int) (a0_7 : Int) (A1 : Option Addr) (c1 : Nat) (l1 : List (S103)) (a2 : Int) (a3 : Int) (a4 : Int) (r : Int) (w : World) (hr0_0 : Kd.C k96 w A0_0 l0_0.length l0_0) (hc0_0 : l0_0.length ≤ c0_0) (hr0_3 : Kd.C k96 w A0_3 l0_3.length l0_3) (hc0_3 : l0_3.length ≤ c0_3) (hr1 : Kd.C k103 w A1 l1.length l1) (hc1 : l1.length ≤ c1) (h : impl_LimitWant.f k l0_0 a0_1 a0_2 l0_3 a0_4 a0_5 a0_6 a0_7 l1 a2 a3 a4 = some r) :
  Calls Try.prog 54 #[.agg #[.slice A0_0 l0_0.length c0_0, .int .i64 a0_1, .int .i64 a0_2, .slice A0_3 l0_3.length c0_3, .int .i64 a0_4, .int .i64 a0_5, .int .i64 a0_6, .int .i64 a0_7], .slice A1 l1.length c1, .int .i64 a2, .int .i64 a3, .int .i64 a4] w fun e w' => e = .returned (.int .i64 r) ∧ Below w.heap.size w w' := by
 have hu35 := Try.underlying35
 have hu33 := Try.underlying33
 have HR0_0 := ak_ hr0_0
 have HC0_0 := ak_ hc0_0
 clear hr0_0 hc0_0
 have HR0_3 := ak_ hr0_3
 have HC0_3 := ak_ hc0_3
 clear hr0_3 hc0_3
 have HR1 := ak_ hr1
 have HC1 := ak_ hc1
 clear hr1 hc1
 have HB := ak_ (Below.refl w.heap.size w)
 have H : ((impl_BehaveOk.f k l0_0 a0_1 a0_2 l0_3 a0_4 a0_5 a0_6 a0_7).bind fun t446 => (if t446 = true then ((impl_isCount.f a4).bind fun t447 => (impl_LimitWant.j0 k l1 a2 a3 a4 (!t447) l0_0 a0_1 a0_2 l0_3 a0_4 a0_5 a0_6 a0_7)) else (impl_LimitWant.j0 k l1 a2 a3 a4 true l0_0 a0_1 a0_2 l0_3 a0_4 a0_5 a0_6 a0_7))) = some r := h
 clear h
 have HC6 := ak_ H
 clear H
 go_enter Try.func54, Try.ntmps54
 go_upto_region 1 with (first | ((with_reducible refine gate_dst (N := 5) rfl ?_); refine be_ (N := 5) (cs := #[.slice A0_0 l0_0.length c0_0, .int .i64 a0_1, .int .i64 a0_2, .slice A0_3 l0_3.length c0_3, .int .i64 a0_4, .int .i64 a0_5, .int .i64 a0_6, .int .i64 a0_7]) (t := 35) ?_; intro gb445 hg w7 hbox hb; have BK445 := ak_ hbox; have GW445 := ak_ ((gs_ hg : w.heap.size ≤ gb445)); have GE445 := ak_ ((gs_ hg : w.heap.size ≤ gb445)); replace HB := ak_ (below_step hb_ hb); clear hb hbox hg))
 (try simp only [Act.put, List.setIfInBounds_toArray, List.set_cons_zero, List.set_cons_succ])
 go_cut [20] (fun v20 wc => ∃ (kq : Nat) (x20_5 : Bool), v20 = .bool x20_5 ∧ Aside0 (impl_LimitWant.j0 kq l1 a2 a3 a4 x20_5 l0_0 a0_1 a0_2 l0_3 a0_4 a0_5 a0_6 a0_7 = some r) ∧ Aside0 (kq ≤ k) ∧ Aside0 (wc.heap[gb445]? = some (.cells #[(.slice A0_0 l0_0.length c0_0), .int .i64 a0_1, .int .i64 a0_2, (.slice A0_3 l0_3.length c0_3), .int .i64 a0_4, .int .i64 a0_5, .int .i64 a0_6, .int .i64 a0_7] 35 (0, 0))) ∧ Aside0 (Below w.heap.size w wc))
 case first =>
  have H := HC6.out
  clear HC6
  replace H := Option.bind_eq_some_iff.mp H
  obtain ⟨t446, A80, H⟩ := H
  replace H : (if t446 = true then ((impl_isCount.f a4).bind fun t447 => (impl_LimitWant.j0 k l1 a2 a3 a4 (!t447) l0_0 a0_1 a0_2 l0_3 a0_4 a0_5 a0_6 a0_7)) else (impl_LimitWant.j0 k l1 a2 a3 a4 true l0_0 a0_1 a0_2 l0_3 a0_4 a0_5 a0_6 a0_7)) = some r := H
  have A8 := ak_ A80
  clear A80
  by_cases c9 : t446 = true
  ·subst c9
   rw [if_pos rfl] at H
   replace H := Option.bind_eq_some_iff.mp H
   obtain ⟨t447, A100, H⟩ := H
   replace H : (impl_LimitWant.j0 k l1 a2 a3 a4 (!t447) l0_0 a0_1 a0_2 l0_3 a0_4 a0_5 a0_6 a0_7) = some r := H
   have A10 := ak_ A100
   clear A100
   have H' := ak_ H
   clear H
   obtain ⟨hcz11_0, hcz11_1, hcz11_2, hcz11_3, hcz11_4, hcz11_5, hcz11_6, hcz11_7, hfz11_0, hfz11_1, hfz11_2, hfz11_3, hfz11_4, hfz11_5, hfz11_6, hfz11_7⟩ := bc8_ BK445.out
   go_wp2_with (first | ((with_reducible refine gate_callee (f := 43) rfl ?_); refine goesL_ (some 14) rfl rfl Try.func43 (by kernel_rfl) rfl #[.agg #[.slice A0_0 l0_0.length c0_0, .int .i64 a0_1, .int .i64 a0_2, .slice A0_3 l0_3.length c0_3, .int .i64 a0_4, .int .i64 a0_5, .int .i64 a0_6, .int .i64 a0_7]] rfl (ma1_ rfl) ?_; (with_reducible refine (impl_BehaveOk.calls k _ _ l0_0 a0_1 a0_2 _ _ l0_3 a0_4 a0_5 a0_6 a0_7 true _ ?side1 ?side2 ?side3 ?side4 A8.out).mono ?_); (case side1 => exact kc_ HR0_0); (case side2 => exact HC0_0.out); (case side3 => exact kc_ HR0_3); (case side4 => exact HC0_3.out); rintro e w12 ⟨rfl, hb⟩; refine ⟨_, rfl, ?_⟩; replace BK445 := ak_ (blk_below (bk_ BK445) hb); replace HB := ak_ (below_step hb_ hb); (try clear hb)) | (go_at_call 68; (with_reducible refine (impl_isCount.calls a4 t447 _ A10.out).mono ?_); rintro e w' ⟨rfl, ⟨nd, rfl⟩⟩))
   go_meet
   case rel => exact ⟨_, (!t447), (by first | rfl | (simp; done) | (simp [*]; done)), H', ⟨by first | omega | exact Nat.le_refl _⟩, ⟨by (with_reducible repeat (first | refine kn_ ?_ _ | refine kd_ ?_ | refine ka_ ?_ _)); exact BK445.out⟩, ⟨hb_⟩⟩
  ·replace c9 := Bool.eq_false_iff.mpr c9
   subst c9
   rw [if_neg (show ¬ (false = true) by decide)] at H
   have H' := ak_ H
   clear H
   obtain ⟨hcz13_0, hcz13_1, hcz13_2, hcz13_3, hcz13_4, hcz13_5, hcz13_6, hcz13_7, hfz13_0, hfz13_1, hfz13_2, hfz13_3, hfz13_4, hfz13_5, hfz13_6, hfz13_7⟩ := bc8_ BK445.out
   go_wp2_with (first | ((with_reducible refine gate_callee (f := 43) rfl ?_); refine goesL_ (some 14) rfl rfl Try.func43 (by kernel_rfl) rfl #[.agg #[.slice A0_0 l0_0.length c0_0, .int .i64 a0_1, .int .i64 a0_2, .slice A0_3 l0_3.length c0_3, .int .i64 a0_4, .int .i64 a0_5, .int .i64 a0_6, .int .i64 a0_7]] rfl (ma1_ rfl) ?_; (with_reducible refine (impl_BehaveOk.calls k _ _ l0_0 a0_1 a0_2 _ _ l0_3 a0_4 a0_5 a0_6 a0_7 false _ ?side1 ?side2 ?side3 ?side4 A8.out).mono ?_); (case side1 => exact kc_ HR0_0); (case side2 => exact HC0_0.out); (case side3 => exact kc_ HR0_3); (case side4 => exact HC0_3.out); rintro e w14 ⟨rfl, hb⟩; refine ⟨_, rfl, ?_⟩; replace BK445 := ak_ (blk_below (bk_ BK445) hb); replace HB := ak_ (below_step hb_ hb); (try clear hb)))
   go_meet
   case rel => exact ⟨_, (true), (by first | rfl | (simp; done) | (simp [*]; done)), H', ⟨by first | omega | exact Nat.le_refl _⟩, ⟨by (with_reducible repeat (first | refine kn_ ?_ _ | refine kd_ ?_ | refine ka_ ?_ _)); exact BK445.out⟩, ⟨hb_⟩⟩
 case rest =>
  clear HC6
  try clear c1
  try clear p2
  try clear c4
  try clear c5
  try clear c9
  (try clear hcz11_0 hcz11_1 hcz11_2 hcz11_3 hcz11_4 hcz11_5 hcz11_6 hcz11_7 hfz11_0 hfz11_1 hfz11_2 hfz11_3 hfz11_4 hfz11_5 hfz11_6 hfz11_7); (try clear hcz13_0 hcz13_1 hcz13_2 hcz13_3 hcz13_4 hcz13_5 hcz13_6 hcz13_7 hfz13_0 hfz13_1 hfz13_2 hfz13_3 hfz13_4 hfz13_5 hfz13_6 hfz13_7)
  obtain ⟨kq, x20_5, rfl, HA, HJ5, BK445, HB⟩ := hcut
  cases kq with
  | zero => exact absurd HA.out (by simp [impl_LimitWant.j0])
  | succ kj5 =>
   have H := HA.out
   clear HA
   simp only [impl_LimitWant.j0] at H
   by_cases c15 : x20_5 = true
   ·subst c15
    rw [if_pos rfl] at H
    obtain rfl := Option.some.inj H
    go_wp2
    go_ret
    exact ⟨ew_, hb_⟩
   ·replace c15 := Bool.eq_false_iff.mpr c15
    subst c15
    rw [if_neg (show ¬ (false = true) by decide)] at H
    replace H := Option.bind_eq_some_iff.mp H
    obtain ⟨t448, A160, H⟩ := H
    replace H : ((impl_DownBound.f kj5 l0_3 a0_4 a0_5 l1 a2 a3).bind fun t449 => (if t448 < 0 then (some (-1)) else (if t449 < 0 then (some (-1)) else (some (mn (mx (mn (mx a4 t449) t448) a0_6) a0_7))))) = some r := H
    have A16 := ak_ A160
    clear A160
    replace H := Option.bind_eq_some_iff.mp H
    obtain ⟨t449, A170, H⟩ := H
    replace H : (if t448 < 0 then (some (-1)) else (if t449 < 0 then (some (-1)) else (some (mn (mx (mn (mx a4 t449) t448) a0_6) a0_7)))) = some r := H
    have A17 := ak_ A170
    clear A170
    by_cases c18 : t448 < 0
    ·rw [if_pos c18] at H
     have c18b0 : decide (t448 < 0) = true := decide_eq_true c18
     clear c18
     obtain rfl := Option.some.inj H
     try go_wp2
     replace BK445 := ak_ (blk_drew BK445.out)
     replace HB := ak_ (below_drew1 HB.out)
     refine start_ (n := 14) (S := fun w' => w'.cell? ⟨gb445, 0, none⟩ = some (.slice A0_0 l0_0.length c0_0) ∧ w'.cell? ⟨gb445, 1, none⟩ = some (.int .i64 a0_1) ∧ w'.cell? ⟨gb445, 2, none⟩ = some (.int .i64 a0_2) ∧ w'.cell? ⟨gb445, 3, none⟩ = some (.slice A0_3 l0_3.length c0_3) ∧ w'.cell? ⟨gb445, 4, none⟩ = some (.int .i64 a0_4) ∧ w'.cell? ⟨gb445, 5, none⟩ = some (.int .i64 a0_5) ∧ w'.cell? ⟨gb445, 6, none⟩ = some (.int .i64 a0_6) ∧ w'.cell? ⟨gb445, 7, none⟩ = some (.int .i64 a0_7)) (ds := []) impl_LimitWant.d0 (by kernel_rfl) rfl rfl ⟨(blk_cell BK445.out 0).trans rfl, (blk_cell BK445.out 1).trans rfl, (blk_cell BK445.out 2).trans rfl, (blk_cell BK445.out 3).trans rfl, (blk_cell BK445.out 4).trans rfl, (blk_cell BK445.out 5).trans rfl, (blk_cell BK445.out 6).trans rfl, (blk_cell BK445.out 7).trans rfl⟩ (fun hHeld => ?_); refine with_tabW impl_LimitWant.tab3 impl_LimitWant.bits3 (fun HT_ HW_ => ?_)
     generalize wc.drew = w19 at BK445 HB hHeld ⊢
     refine p1_ (i := 0) (N := some 21) impl_LimitWant.d1 (any_of HT_.out (by kernel_rfl)) ?_
     refine p1_ (i := 2) (N := some 23) impl_LimitWant.d2 (any_of HT_.out (by kernel_rfl)) ?_
     refine p1_ (i := 3) (N := some 24) impl_LimitWant.d3 (any_of HT_.out (by kernel_rfl)) ?_
     refine p1_ (i := 4) (N := some 25) impl_LimitWant.d4 (any_of HT_.out (by kernel_rfl)) ?_
     refine p1_ (i := 6) (N := some 27) impl_LimitWant.d5 (any_of HT_.out (by kernel_rfl)) ?_
     refine p1_ (i := 8) (N := some 29) impl_LimitWant.d6 (any_of HT_.out (by kernel_rfl)) ?_
     refine p1_ (i := 9) (N := some 30) impl_LimitWant.d7 (any_of HT_.out (by kernel_rfl)) ?_
     refine p1_ (i := 10) (N := some 31) impl_LimitWant.d8 (any_of HT_.out (by kernel_rfl)) ?_
     refine take_ (i := 1) (N := some 22) (v := ?_) (a' := ?_) impl_LimitWant.d9 rfl rfl (take_ofW HT_.out HW_.out (by kernel_rfl)) (fun _ _ _ h => h) (Or.inl ⟨by rfl, ?_⟩) hHeld ?_ ?_; rotate_left; (rintro w' ⟨s0, s1, s2, s3, s4, s5, s6, s7⟩; go_simp; with_reducible rfl); rotate_left; (simp only [Act.put, List.setIfInBounds_toArray, List.set_cons_zero, List.set_cons_succ, i64_w, i32_w]; rfl)
     refine take_ (i := 7) (N := some 28) (v := ?_) (a' := ?_) impl_LimitWant.d10 rfl rfl (take_ofW HT_.out HW_.out (by kernel_rfl)) (fun _ _ _ h => h) (Or.inl ⟨by rfl, ?_⟩) hHeld ?_ ?_; rotate_left; (rintro w' ⟨s0, s1, s2, s3, s4, s5, s6, s7⟩; go_simp; with_reducible rfl); rotate_left; (simp only [Act.put, List.setIfInBounds_toArray, List.set_cons_zero, List.set_cons_succ, i64_w, i32_w]; rfl)
     refine one_ (i := 5) (N := some 26) impl_LimitWant.d11 rfl rfl (one_of HT_.out (by kernel_rfl)) (by decide) (fun K hK => ?_)
     refine goes_ Try.func24 (by kernel_rfl) rfl #[.agg #[.slice A0_0 l0_0.length c0_0, .int .i64 a0_1, .int .i64 a0_2], .slice A1 l1.length c1, .int .i64 a2, .int .i64 a3] (by rfl) rfl rfl (ma4_ rfl rfl rfl rfl) ?_
     with_reducible refine (impl_UpBound.calls kj5 _ _ l0_0 a0_1 a0_2 _ _ l1 a2 a3 t448 _ ?side1 ?side2 ?side3 ?side4 A16.out).mono ?_
     (case side1 => exact kc_ HR0_0)
     (case side2 => exact HC0_0.out)
     (case side3 => exact kc_ HR1)
     (case side4 => exact HC1.out)
     rintro e w20 ⟨rfl, hb⟩
     refine ⟨_, rfl, ?_⟩
     replace BK445 := ak_ (blk_below (bk_ BK445) hb)
     replace HB := ak_ (below_step hb_ hb)
     (try clear hb)
     (try clear hb2)
     (try clear hk)
     (try clear hi)
     refine hK.out _ _ ⟨(blk_cell BK445.out 0).trans rfl, (blk_cell BK445.out 1).trans rfl, (blk_cell BK445.out 2).trans rfl, (blk_cell BK445.out 3).trans rfl, (blk_cell BK445.out 4).trans rfl, (blk_cell BK445.out 5).trans rfl, (blk_cell BK445.out 6).trans rfl, (blk_cell BK445.out 7).trans rfl⟩ (fun hHeld => ?_)
     clear hK K
     refine norm_ (a' := ?_) ?_ ?_
     rotate_left
     ·show Act.put _ (some 26) _ = _
      simp only [Act.put, List.setIfInBounds_toArray, List.set_cons_zero, List.set_cons_succ, i64_w, i32_w]
      rfl
     refine one_ (i := 11) (N := some 32) impl_LimitWant.d12 rfl rfl (one_of HT_.out (by kernel_rfl)) (by decide) (fun K hK => ?_)
     refine goes_ Try.func25 (by kernel_rfl) rfl #[.agg #[.slice A0_3 l0_3.length c0_3, .int .i64 a0_4, .int .i64 a0_5], .slice A1 l1.length c1, .int .i64 a2, .int .i64 a3] (by rfl) rfl rfl (ma4_ rfl rfl rfl rfl) ?_
     with_reducible refine (impl_DownBound.calls kj5 _ _ l0_3 a0_4 a0_5 _ _ l1 a2 a3 t449 _ ?side1 ?side2 ?side3 ?side4 A17.out).mono ?_
     (case side1 => exact kc_ HR0_3)
     (case side2 => exact HC0_3.out)
     (case side3 => exact kc_ HR1)
     (case side4 => exact HC1.out)
     rintro e w21 ⟨rfl, hb⟩
     refine ⟨_, rfl, ?_⟩
     replace BK445 := ak_ (blk_below (bk_ BK445) hb)
     replace HB := ak_ (below_step hb_ hb)
     (try clear hb)
     (try clear hb2)
     (try clear hk)
     (try clear hi)
     refine hK.out _ _ ⟨(blk_cell BK445.out 0).trans rfl, (blk_cell BK445.out 1).trans rfl, (blk_cell BK445.out 2).trans rfl, (blk_cell BK445.out 3).trans rfl, (blk_cell BK445.out 4).trans rfl, (blk_cell BK445.out 5).trans rfl, (blk_cell BK445.out 6).trans rfl, (blk_cell BK445.out 7).trans rfl⟩ (fun hHeld => ?_)
     clear hK K
     refine norm_ (a' := ?_) ?_ ?_
     rotate_left
     ·show Act.put _ (some 32) _ = _
      simp only [Act.put, List.setIfInBounds_toArray, List.set_cons_zero, List.set_cons_succ, i64_w, i32_w]
      rfl
     refine p1_ (i := 12) (N := some 11) impl_LimitWant.d13 (any_of HT_.out (by kernel_rfl)) ?_
     refine p1_ (i := 13) (N := some 12) impl_LimitWant.d14 (any_of HT_.out (by kernel_rfl)) ?_
     refine done_ (done_of HT_.out (by kernel_rfl)) ?_
     try go_wp2
     go_ret
     exact ⟨ew_, hb_⟩
    ·rw [if_neg c18] at H
     have c18b0 : decide (t448 < 0) = false := decide_eq_false c18
     clear c18
     by_cases c22 : t449 < 0
     ·rw [if_pos c22] at H
      have c22b0 : decide (t449 < 0) = true := decide_eq_true c22
      clear c22
      obtain rfl := Option.some.inj H
      try go_wp2
      replace BK445 := ak_ (blk_drew BK445.out)
      replace HB := ak_ (below_drew1 HB.out)
      refine start_ (n := 14) (S := fun w' => w'.cell? ⟨gb445, 0, none⟩ = some (.slice A0_0 l0_0.length c0_0) ∧ w'.cell? ⟨gb445, 1, none⟩ = some (.int .i64 a0_1) ∧ w'.cell? ⟨gb445, 2, none⟩ = some (.int .i64 a0_2) ∧ w'.cell? ⟨gb445, 3, none⟩ = some (.slice A0_3 l0_3.length c0_3) ∧ w'.cell? ⟨gb445, 4, none⟩ = some (.int .i64 a0_4) ∧ w'.cell? ⟨gb445, 5, none⟩ = some (.int .i64 a0_5) ∧ w'.cell? ⟨gb445, 6, none⟩ = some (.int .i64 a0_6) ∧ w'.cell? ⟨gb445, 7, none⟩ = some (.int .i64 a0_7)) (ds := []) impl_LimitWant.d0 (by kernel_rfl) rfl rfl ⟨(blk_cell BK445.out 0).trans rfl, (blk_cell BK445.out 1).trans rfl, (blk_cell BK445.out 2).trans rfl, (blk_cell BK445.out 3).trans rfl, (blk_cell BK445.out 4).trans rfl, (blk_cell BK445.out 5).trans rfl, (blk_cell BK445.out 6).trans rfl, (blk_cell BK445.out 7).trans rfl⟩ (fun hHeld => ?_); refine with_tabW impl_LimitWant.tab3 impl_LimitWant.bits3 (fun HT_ HW_ => ?_)
      generalize wc.drew = w23 at BK445 HB hHeld ⊢
      refine p1_ (i := 0) (N := some 21) impl_LimitWant.d1 (any_of HT_.out (by kernel_rfl)) ?_
      refine p1_ (i := 2) (N := some 23) impl_LimitWant.d2 (any_of HT_.out (by kernel_rfl)) ?_
      refine p1_ (i := 3) (N := some 24) impl_LimitWant.d3 (any_of HT_.out (by kernel_rfl)) ?_
      refine p1_ (i := 4) (N := some 25) impl_LimitWant.d4 (any_of HT_.out (by kernel_rfl)) ?_
      refine p1_ (i := 6) (N := some 27) impl_LimitWant.d5 (any_of HT_.out (by kernel_rfl)) ?_
      refine p1_ (i := 8) (N := some 29) impl_LimitWant.d6 (any_of HT_.out (by kernel_rfl)) ?_
      refine p1_ (i := 9) (N := some 30) impl_LimitWant.d7 (any_of HT_.out (by kernel_rfl)) ?_
      refine p1_ (i := 10) (N := some 31) impl_LimitWant.d8 (any_of HT_.out (by kernel_rfl)) ?_
      refine take_ (i := 1) (N := some 22) (v := ?_) (a' := ?_) impl_LimitWant.d9 rfl rfl (take_ofW HT_.out HW_.out (by kernel_rfl)) (fun _ _ _ h => h) (Or.inl ⟨by rfl, ?_⟩) hHeld ?_ ?_; rotate_left; (rintro w' ⟨s0, s1, s2, s3, s4, s5, s6, s7⟩; go_simp; with_reducible rfl); rotate_left; (simp only [Act.put, List.setIfInBounds_toArray, List.set_cons_zero, List.set_cons_succ, i64_w, i32_w]; rfl)
      refine take_ (i := 7) (N := some 28) (v := ?_) (a' := ?_) impl_LimitWant.d10 rfl rfl (take_ofW HT_.out HW_.out (by kernel_rfl)) (fun _ _ _ h => h) (Or.inl ⟨by rfl, ?_⟩) hHeld ?_ ?_; rotate_left; (rintro w' ⟨s0, s1, s2, s3, s4, s5, s6, s7⟩; go_simp; with_reducible rfl); rotate_left; (simp only [Act.put, List.setIfInBounds_toArray, List.set_cons_zero, List.set_cons_succ, i64_w, i32_w]; rfl)
      refine one_ (i := 5) (N := some 26) impl_LimitWant.d11 rfl rfl (one_of HT_.out (by kernel_rfl)) (by decide) (fun K hK => ?_)
      refine goes_ Try.func24 (by kernel_rfl) rfl #[.agg #[.slice A0_0 l0_0.length c0_0, .int .i64 a0_1, .int .i64 a0_2], .slice A1 l1.length c1, .int .i64 a2, .int .i64 a3] (by rfl) rfl rfl (ma4_ rfl rfl rfl rfl) ?_
      with_reducible refine (impl_UpBound.calls kj5 _ _ l0_0 a0_1 a0_2 _ _ l1 a2 a3 t448 _ ?side1 ?side2 ?side3 ?side4 A16.out).mono ?_
      (case side1 => exact kc_ HR0_0)
      (case side2 => exact HC0_0.out)
      (case side3 => exact kc_ HR1)
      (case side4 => exact HC1.out)
      rintro e w24 ⟨rfl, hb⟩
      refine ⟨_, rfl, ?_⟩
      replace BK445 := ak_ (blk_below (bk_ BK445) hb)
      replace HB := ak_ (below_step hb_ hb)
      (try clear hb)
      (try clear hb2)
      (try clear hk)
      (try clear hi)
      refine hK.out _ _ ⟨(blk_cell BK445.out 0).trans rfl, (blk_cell BK445.out 1).trans rfl, (blk_cell BK445.out 2).trans rfl, (blk_cell BK445.out 3).trans rfl, (blk_cell BK445.out 4).trans rfl, (blk_cell BK445.out 5).trans rfl, (blk_cell BK445.out 6).trans rfl, (blk_cell BK445.out 7).trans rfl⟩ (fun hHeld => ?_)
      clear hK K
      refine norm_ (a' := ?_) ?_ ?_
      rotate_left
      ·show Act.put _ (some 26) _ = _
       simp only [Act.put, List.setIfInBounds_toArray, List.set_cons_zero, List.set_cons_succ, i64_w, i32_w]
       rfl
      refine one_ (i := 11) (N := some 32) impl_LimitWant.d12 rfl rfl (one_of HT_.out (by kernel_rfl)) (by decide) (fun K hK => ?_)
      refine goes_ Try.func25 (by kernel_rfl) rfl #[.agg #[.slice A0_3 l0_3.length c0_3, .int .i64 a0_4, .int .i64 a0_5], .slice A1 l1.length c1, .int .i64 a2, .int .i64 a3] (by rfl) rfl rfl (ma4_ rfl rfl rfl rfl) ?_
      with_reducible refine (impl_DownBound.calls kj5 _ _ l0_3 a0_4 a0_5 _ _ l1 a2 a3 t449 _ ?side1 ?side2 ?side3 ?side4 A17.out).mono ?_
      (case side1 => exact kc_ HR0_3)
      (case side2 => exact HC0_3.out)
      (case side3 => exact kc_ HR1)
      (case side4 => exact HC1.out)
      rintro e w25 ⟨rfl, hb⟩
      refine ⟨_, rfl, ?_⟩
      replace BK445 := ak_ (blk_below (bk_ BK445) hb)
      replace HB := ak_ (below_step hb_ hb)
      (try clear hb)
      (try clear hb2)
      (try clear hk)
      (try clear hi)
      refine hK.out _ _ ⟨(blk_cell BK445.out 0).trans rfl, (blk_cell BK445.out 1).trans rfl, (blk_cell BK445.out 2).trans rfl, (blk_cell BK445.out 3).trans rfl, (blk_cell BK445.out 4).trans rfl, (blk_cell BK445.out 5).trans rfl, (blk_cell BK445.out 6).trans rfl, (blk_cell BK445.out 7).trans rfl⟩ (fun hHeld => ?_)
      clear hK K
      refine norm_ (a' := ?_) ?_ ?_
      rotate_left
      ·show Act.put _ (some 32) _ = _
       simp only [Act.put, List.setIfInBounds_toArray, List.set_cons_zero, List.set_cons_succ, i64_w, i32_w]
       rfl
      refine p1_ (i := 12) (N := some 11) impl_LimitWant.d13 (any_of HT_.out (by kernel_rfl)) ?_
      refine p1_ (i := 13) (N := some 12) impl_LimitWant.d14 (any_of HT_.out (by kernel_rfl)) ?_
      refine done_ (done_of HT_.out (by kernel_rfl)) ?_
      try go_wp2
      go_ret
      exact ⟨ew_, hb_⟩
     ·rw [if_neg c22] at H
      have c22b0 : decide (t449 < 0) = false := decide_eq_false c22
      clear c22
      obtain ⟨ji26, hji26⟩ : ∃ j_ : Int, (mx a4 t449) = j_ := ⟨_, rfl⟩
      replace H : (some (mn (mx (mn (ji26) t448) a0_6) a0_7)) = some r := by first | (rw [hji26] at H; exact H) | (simp only [hji26] at H ⊢; exact H)
      (try rw [hji26] at A16)
      (try rw [hji26] at A17)
      have hji26_ : (if a4 < t449 then t449 else a4) = ji26 := hji26
      obtain ⟨ji27, hji27⟩ : ∃ j_ : Int, (mn (ji26) t448) = j_ := ⟨_, rfl⟩
      replace H : (some (mn (mx (ji27) a0_6) a0_7)) = some r := by first | (rw [hji27] at H; exact H) | (simp only [hji27] at H ⊢; exact H)
      (try rw [hji27] at A16)
      (try rw [hji27] at A17)
      have hji27_ : (if t448 < (ji26) then t448 else (ji26)) = ji27 := hji27
      obtain ⟨ji28, hji28⟩ : ∃ j_ : Int, (mx (ji27) a0_6) = j_ := ⟨_, rfl⟩
      replace H : (some (mn (ji28) a0_7)) = some r := by first | (rw [hji28] at H; exact H) | (simp only [hji28] at H ⊢; exact H)
      (try rw [hji28] at A16)
      (try rw [hji28] at A17)
      have hji28_ : (if (ji27) < a0_6 then a0_6 else (ji27)) = ji28 := hji28
      obtain ⟨ji29, hji29⟩ : ∃ j_ : Int, (mn (ji28) a0_7) = j_ := ⟨_, rfl⟩
      replace H : (some ji29) = some r := by first | (rw [hji29] at H; exact H) | (simp only [hji29] at H ⊢; exact H)
      (try rw [hji29] at A16)
      (try rw [hji29] at A17)
      have hji29_ : (if a0_7 < (ji28) then a0_7 else (ji28)) = ji29 := hji29
      obtain rfl := Option.some.inj H
      try go_wp2
      replace BK445 := ak_ (blk_drew BK445.out)
      replace HB := ak_ (below_drew1 HB.out)
      refine start_ (n := 14) (S := fun w' => w'.cell? ⟨gb445, 0, none⟩ = some (.slice A0_0 l0_0.length c0_0) ∧ w'.cell? ⟨gb445, 1, none⟩ = some (.int .i64 a0_1) ∧ w'.cell? ⟨gb445, 2, none⟩ = some (.int .i64 a0_2) ∧ w'.cell? ⟨gb445, 3, none⟩ = some (.slice A0_3 l0_3.length c0_3) ∧ w'.cell? ⟨gb445, 4, none⟩ = some (.int .i64 a0_4) ∧ w'.cell? ⟨gb445, 5, none⟩ = some (.int .i64 a0_5) ∧ w'.cell? ⟨gb445, 6, none⟩ = some (.int .i64 a0_6) ∧ w'.cell? ⟨gb445, 7, none⟩ = some (.int .i64 a0_7)) (ds := []) impl_LimitWant.d0 (by kernel_rfl) rfl rfl ⟨(blk_cell BK445.out 0).trans rfl, (blk_cell BK445.out 1).trans rfl, (blk_cell BK445.out 2).trans rfl, (blk_cell BK445.out 3).trans rfl, (blk_cell BK445.out 4).trans rfl, (blk_cell BK445.out 5).trans rfl, (blk_cell BK445.out 6).trans rfl, (blk_cell BK445.out 7).trans rfl⟩ (fun hHeld => ?_); refine with_tabW impl_LimitWant.tab3 impl_LimitWant.bits3 (fun HT_ HW_ => ?_)
      generalize wc.drew = w30 at BK445 HB hHeld ⊢
      refine p1_ (i := 0) (N := some 21) impl_LimitWant.d1 (any_of HT_.out (by kernel_rfl)) ?_
      refine p1_ (i := 2) (N := some 23) impl_LimitWant.d2 (any_of HT_.out (by kernel_rfl)) ?_
      refine p1_ (i := 3) (N := some 24) impl_LimitWant.d3 (any_of HT_.out (by kernel_rfl)) ?_
      refine p1_ (i := 4) (N := some 25) impl_LimitWant.d4 (any_of HT_.out (by kernel_rfl)) ?_
      refine p1_ (i := 6) (N := some 27) impl_LimitWant.d5 (any_of HT_.out (by kernel_rfl)) ?_
      refine p1_ (i := 8) (N := some 29) impl_LimitWant.d6 (any_of HT_.out (by kernel_rfl)) ?_
      refine p1_ (i := 9) (N := some 30) impl_LimitWant.d7 (any_of HT_.out (by kernel_rfl)) ?_
      refine p1_ (i := 10) (N := some 31) impl_LimitWant.d8 (any_of HT_.out (by kernel_rfl)) ?_
      refine take_ (i := 1) (N := some 22) (v := ?_) (a' := ?_) impl_LimitWant.d9 rfl rfl (take_ofW HT_.out HW_.out (by kernel_rfl)) (fun _ _ _ h => h) (Or.inl ⟨by rfl, ?_⟩) hHeld ?_ ?_; rotate_left; (rintro w' ⟨s0, s1, s2, s3, s4, s5, s6, s7⟩; go_simp; with_reducible rfl); rotate_left; (simp only [Act.put, List.setIfInBounds_toArray, List.set_cons_zero, List.set_cons_succ, i64_w, i32_w]; rfl)
      refine take_ (i := 7) (N := some 28) (v := ?_) (a' := ?_) impl_LimitWant.d10 rfl rfl (take_ofW HT_.out HW_.out (by kernel_rfl)) (fun _ _ _ h => h) (Or.inl ⟨by rfl, ?_⟩) hHeld ?_ ?_; rotate_left; (rintro w' ⟨s0, s1, s2, s3, s4, s5, s6, s7⟩; go_simp; with_reducible rfl); rotate_left; (simp only [Act.put, List.setIfInBounds_toArray, List.set_cons_zero, List.set_cons_succ, i64_w, i32_w]; rfl)
      refine one_ (i := 5) (N := some 26) impl_LimitWant.d11 rfl rfl (one_of HT_.out (by kernel_rfl)) (by decide) (fun K hK => ?_)
      refine goes_ Try.func24 (by kernel_rfl) rfl #[.agg #[.slice A0_0 l0_0.length c0_0, .int .i64 a0_1, .int .i64 a0_2], .slice A1 l1.length c1, .int .i64 a2, .int .i64 a3] (by rfl) rfl rfl (ma4_ rfl rfl rfl rfl) ?_
      with_reducible refine (impl_UpBound.calls kj5 _ _ l0_0 a0_1 a0_2 _ _ l1 a2 a3 t448 _ ?side1 ?side2 ?side3 ?side4 A16.out).mono ?_
      (case side1 => exact kc_ HR0_0)
      (case side2 => exact HC0_0.out)
      (case side3 => exact kc_ HR1)
      (case side4 => exact HC1.out)
      rintro e w31 ⟨rfl, hb⟩
      refine ⟨_, rfl, ?_⟩
      replace BK445 := ak_ (blk_below (bk_ BK445) hb)
      replace HB := ak_ (below_step hb_ hb)
      (try clear hb)
      (try clear hb2)
      (try clear hk)
      (try clear hi)
      refine hK.out _ _ ⟨(blk_cell BK445.out 0).trans rfl, (blk_cell BK445.out 1).trans rfl, (blk_cell BK445.out 2).trans rfl, (blk_cell BK445.out 3).trans rfl, (blk_cell BK445.out 4).trans rfl, (blk_cell BK445.out 5).trans rfl, (blk_cell BK445.out 6).trans rfl, (blk_cell BK445.out 7).trans rfl⟩ (fun hHeld => ?_)
      clear hK K
      refine norm_ (a' := ?_) ?_ ?_
      rotate_left
      ·show Act.put _ (some 26) _ = _
       simp only [Act.put, List.setIfInBounds_toArray, List.set_cons_zero, List.set_cons_succ, i64_w, i32_w]
       rfl
      refine one_ (i := 11) (N := some 32) impl_LimitWant.d12 rfl rfl (one_of HT_.out (by kernel_rfl)) (by decide) (fun K hK => ?_)
      refine goes_ Try.func25 (by kernel_rfl) rfl #[.agg #[.slice A0_3 l0_3.length c0_3, .int .i64 a0_4, .int .i64 a0_5], .slice A1 l1.length c1, .int .i64 a2, .int .i64 a3] (by rfl) rfl rfl (ma4_ rfl rfl rfl rfl) ?_
      with_reducible refine (impl_DownBound.calls kj5 _ _ l0_3 a0_4 a0_5 _ _ l1 a2 a3 t449 _ ?side1 ?side2 ?side3 ?side4 A17.out).mono ?_
      (case side1 => exact kc_ HR0_3)
      (case side2 => exact HC0_3.out)
      (case side3 => exact kc_ HR1)
      (case side4 => exact HC1.out)
      rintro e w32 ⟨rfl, hb⟩
      refine ⟨_, rfl, ?_⟩
      replace BK445 := ak_ (blk_below (bk_ BK445) hb)
      replace HB := ak_ (below_step hb_ hb)
      (try clear hb)
      (try clear hb2)
      (try clear hk)
      (try clear hi)
      refine hK.out _ _ ⟨(blk_cell BK445.out 0).trans rfl, (blk_cell BK445.out 1).trans rfl, (blk_cell BK445.out 2).trans rfl, (blk_cell BK445.out 3).trans rfl, (blk_cell BK445.out 4).trans rfl, (blk_cell BK445.out 5).trans rfl, (blk_cell BK445.out 6).trans rfl, (blk_cell BK445.out 7).trans rfl⟩ (fun hHeld => ?_)
      clear hK K
      refine norm_ (a' := ?_) ?_ ?_
      rotate_left
      ·show Act.put _ (some 32) _ = _
       simp only [Act.put, List.setIfInBounds_toArray, List.set_cons_zero, List.set_cons_succ, i64_w, i32_w]
       rfl
      refine p1_ (i := 12) (N := some 11) impl_LimitWant.d13 (any_of HT_.out (by kernel_rfl)) ?_
      refine p1_ (i := 13) (N := some 12) impl_LimitWant.d14 (any_of HT_.out (by kernel_rfl)) ?_
      refine done_ (done_of HT_.out (by kernel_rfl)) ?_
      obtain ⟨hcz33_0, hcz33_1, hcz33_2, hcz33_3, hcz33_4, hcz33_5, hcz33_6, hcz33_7, hfz33_0, hfz33_1, hfz33_2, hfz33_3, hfz33_4, hfz33_5, hfz33_6, hfz33_7⟩ := bc8_ BK445.out
      try go_wp2
      go_ret
      exact ⟨by first | rfl | (simp [errW_none, errW_some] <;> rfl) | (simp only [← hji26, ← hji27, ← hji28, ← hji29]; first | rfl | (simp [errW_none, errW_some] <;> rfl)) | (simp [*, errW_none, errW_some] <;> rfl), hb_⟩

end Go.Proofs.Ytfjjlipfjddaiaa.Bo
