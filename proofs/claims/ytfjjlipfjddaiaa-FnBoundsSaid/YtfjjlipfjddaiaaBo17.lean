-- PRINTED by print.py (a twelfth state) out of the translation. Not trusted: Lean checks it.
import Derived.Test.YtfjjlipfjddaiaaBo0
import Derived.Test.YtfjjlipfjddaiaaBo14
namespace Go.Proofs.Ytfjjlipfjddaiaa.Bo
open Go.RowKit Go.Proofs.YtfjjlipfjddaiaaW.PrintWords Go.Proofs.YtfjjlipfjddaiaaW.PrintLast Go.Proofs.YtfjjlipfjddaiaaW.PrintMore
attribute [local go_sem] max2_int min2_int max_two min_two max_three min_three max_four min_four   -- for this text's walks alone
set_option linter.unusedVariables false
set_option linter.unusedSimpArgs false

/-! ### impl_FloorDiv: function 73 -/
def impl_FloorDiv.f (a0 : Int) (a1 : Int) : Option (Int) := if a1 < 1 then (some 0) else (if a1 = 0 then (none) else (if (Int.tmod a0 a1) < 0 then (some (wrap64 ((wrap64 (Int.tdiv a0 a1)) - 1))) else (some (wrap64 (Int.tdiv a0 a1)))))
set_option maxHeartbeats 8000000 in
set_option maxRecDepth 100000 in
theorem impl_FloorDiv.calls (a0 : Int) (a1 : Int) (r : Int) (w : World) (h : impl_FloorDiv.f a0 a1 = some r) :
  Calls Try.prog 73 #[.int .i64 a0, .int .i64 a1] w fun e w' => e = .returned (.int .i64 r) ∧ Drawn0 w w' := by
 have H : (if a1 < 1 then (some 0) else (if a1 = 0 then (none) else (if (Int.tmod a0 a1) < 0 then (some (wrap64 ((wrap64 (Int.tdiv a0 a1)) - 1))) else (some (wrap64 (Int.tdiv a0 a1)))))) = some r := h
 clear h
 by_cases c3 : a1 < 1
 ·rw [if_pos c3] at H
  have c3b0 : decide (a1 < 1) = true := decide_eq_true c3
  clear c3
  obtain rfl := Option.some.inj H
  go_enter Try.func73, Try.ntmps73
  go_wp2
  go_ret
  exact ⟨by first | rfl | (simp; done) | (simp [*]; done), by repeat (first | exact Drawn0.refl _ | apply Drawn0.step)⟩
 ·rw [if_neg c3] at H
  have c3b0 : decide (a1 < 1) = false := decide_eq_false c3
  clear c3
  by_cases c4 : a1 = 0
  ·rw [if_pos c4] at H
   exact absurd H (by simp)
  ·rw [if_neg c4] at H
   have c4b0 : (a1 == 0) = false := beq_eq_false_iff_ne.mpr c4
   have c4b1 : (a1 != 0) = true := bne_iff_ne.mpr c4
   by_cases c5 : (Int.tmod a0 a1) < 0
   ·rw [if_pos c5] at H
    have c5b0 : decide ((Int.tmod a0 a1) < 0) = true := decide_eq_true c5
    clear c5
    obtain rfl := Option.some.inj H
    go_enter Try.func73, Try.ntmps73
    go_wp2
    go_ret
    exact ⟨by first | rfl | (simp; done) | (simp [*]; done), by repeat (first | exact Drawn0.refl _ | apply Drawn0.step)⟩
   ·rw [if_neg c5] at H
    have c5b0 : decide ((Int.tmod a0 a1) < 0) = false := decide_eq_false c5
    clear c5
    obtain rfl := Option.some.inj H
    go_enter Try.func73, Try.ntmps73
    go_wp2
    go_ret
    exact ⟨by first | rfl | (simp; done) | (simp [*]; done), by repeat (first | exact Drawn0.refl _ | apply Drawn0.step)⟩

/-! ### impl_DownBound_1: function 72 -/
def impl_DownBound_1.f (a0 : Int) (a1_0 : Int) (a1_1 : Int) (a1_2 : Int) : Option (Int) := if a1_0 = 1 then ((impl_FloorDiv.f (wrap64 ((mn a0 1000) * (mx 0 (wrap64 (100 - a1_1))))) 100).bind fun t431 => (some t431)) else (some (mx 0 (wrap64 ((mn a0 1000) - a1_1))))
set_option maxHeartbeats 8000000 in
set_option maxRecDepth 100000 in
theorem impl_DownBound_1.calls (a0 : Int) (a1_0 : Int) (a1_1 : Int) (a1_2 : Int) (r : Int) (w : World) (h : impl_DownBound_1.f a0 a1_0 a1_1 a1_2 = some r) :
  Calls Try.prog 72 #[.int .i64 a0, .agg #[.int .i64 a1_0, .int .i64 a1_1, .int .i64 a1_2]] w fun e w' => e = .returned (.int .i64 r) ∧ Below w.heap.size w w' := by
 have hu96 := Try.underlying96
 have HB := ak_ (Below.refl w.heap.size w)
 have H : (if a1_0 = 1 then ((impl_FloorDiv.f (wrap64 ((mn a0 1000) * (mx 0 (wrap64 (100 - a1_1))))) 100).bind fun t431 => (some t431)) else (some (mx 0 (wrap64 ((mn a0 1000) - a1_1))))) = some r := h
 clear h
 obtain ⟨ji3, hji3⟩ : ∃ j_ : Int, (mn a0 1000) = j_ := ⟨_, rfl⟩
 replace H : (if a1_0 = 1 then ((impl_FloorDiv.f (wrap64 ((ji3) * (mx 0 (wrap64 (100 - a1_1))))) 100).bind fun t431 => (some t431)) else (some (mx 0 (wrap64 ((ji3) - a1_1))))) = some r := by first | (rw [hji3] at H; exact H) | (simp only [hji3] at H ⊢; exact H)
 (try (have hji3h : ji3 ≤ 1000 := by (rw [← hji3]; unfold mn; (repeat' split) <;> omega)))
 (try (have hji3g : ji3 ≤ 64 := by omega))
 have hji3_ : (if 1000 < a0 then 1000 else a0) = ji3 := hji3
 by_cases c4 : a1_0 = 1
 ·rw [if_pos c4] at H
  have c4b0 : (a1_0 == 1) = true := beq_iff_eq.mpr c4
  have c4b1 : (a1_0 != 1) = false := bne_eq_false_iff_eq.mpr c4
  clear c4
  obtain ⟨ji5, hji5⟩ : ∃ j_ : Int, (mx 0 (wrap64 (100 - a1_1))) = j_ := ⟨_, rfl⟩
  replace H : ((impl_FloorDiv.f (wrap64 ((ji3) * (ji5))) 100).bind fun t431 => (some t431)) = some r := by first | (rw [hji5] at H; exact H) | (simp only [hji5] at H ⊢; exact H)
  (try (have hji5l : 0 ≤ ji5 := by (rw [← hji5]; unfold mx; (repeat' split) <;> omega)))
  (try (have hji5m : 0 ≤ ji5 := by omega))
  have hji5_ : (if 0 < (wrap64 (100 - a1_1)) then (wrap64 (100 - a1_1)) else 0) = ji5 := hji5
  replace H := Option.bind_eq_some_iff.mp H
  obtain ⟨t431, A60, H⟩ := H
  replace H : (some t431) = some r := H
  have A6 := ak_ A60
  clear A60
  obtain rfl := Option.some.inj H
  go_enter Try.func72, Try.ntmps72
  go_wp2_with (first | ((with_reducible refine gate_dst (N := 3) rfl ?_); refine be_ (N := 3) (cs := #[.int .i64 a1_0, .int .i64 a1_1, .int .i64 a1_2]) (t := 96) ?_; intro gb430 hg w7 hbox hb; have BK430 := ak_ hbox; have GW430 := ak_ ((gs_ hg : w.heap.size ≤ gb430)); have GE430 := ak_ ((gs_ hg : w.heap.size ≤ gb430)); replace HB := ak_ (below_step hb_ hb); clear hb hbox hg; obtain ⟨hcz8_0, hcz8_1, hcz8_2, hfz8_0, hfz8_1, hfz8_2⟩ := bc3_ BK430.out) | ((with_reducible refine gate_callee (f := 73) rfl ?_); refine goesL_ (some 16) rfl rfl Try.func73 (by kernel_rfl) rfl #[.int .i64 (wrap64 ((ji3) * (ji5))), .int .i64 100] rfl (by (try simp only [List.map_toArray, List.map_cons, List.map_nil]); first | done | (simp only [hji3, hji5]; rfl) | rfl | (simp only [List.length_drop, List.length_take]; rfl)) ?_; (with_reducible refine (impl_FloorDiv.calls (wrap64 ((ji3) * (ji5))) 100 t431 _ A6.out).mono ?_); rintro e w' ⟨rfl, ⟨nd, rfl⟩⟩; refine ⟨_, rfl, ?_⟩))
  go_ret
  exact ⟨by first | rfl | (simp [errW_none, errW_some] <;> rfl) | (simp only [← hji3, ← hji5]; first | rfl | (simp [errW_none, errW_some] <;> rfl)) | (simp [*, errW_none, errW_some] <;> rfl), hb_⟩
 ·rw [if_neg c4] at H
  have c4b0 : (a1_0 == 1) = false := beq_eq_false_iff_ne.mpr c4
  have c4b1 : (a1_0 != 1) = true := bne_iff_ne.mpr c4
  obtain ⟨ji9, hji9⟩ : ∃ j_ : Int, (mx 0 (wrap64 ((ji3) - a1_1))) = j_ := ⟨_, rfl⟩
  replace H : (some ji9) = some r := by first | (rw [hji9] at H; exact H) | (simp only [hji9] at H ⊢; exact H)
  have hji9_ : (if 0 < (wrap64 ((ji3) - a1_1)) then (wrap64 ((ji3) - a1_1)) else 0) = ji9 := hji9
  obtain rfl := Option.some.inj H
  go_enter Try.func72, Try.ntmps72
  go_wp2_with (first | ((with_reducible refine gate_dst (N := 3) rfl ?_); refine be_ (N := 3) (cs := #[.int .i64 a1_0, .int .i64 a1_1, .int .i64 a1_2]) (t := 96) ?_; intro gb430 hg w10 hbox hb; have BK430 := ak_ hbox; have GW430 := ak_ ((gs_ hg : w.heap.size ≤ gb430)); have GE430 := ak_ ((gs_ hg : w.heap.size ≤ gb430)); replace HB := ak_ (below_step hb_ hb); clear hb hbox hg; obtain ⟨hcz11_0, hcz11_1, hcz11_2, hfz11_0, hfz11_1, hfz11_2⟩ := bc3_ BK430.out))
  go_ret
  exact ⟨by first | rfl | (simp [errW_none, errW_some] <;> rfl) | (simp only [← hji3, ← hji9]; first | rfl | (simp [errW_none, errW_some] <;> rfl)) | (simp [*, errW_none, errW_some] <;> rfl), hb_⟩

/-! ### impl_boundsDown: function 69 -/
def impl_boundsDown.l0 : Nat → List (S103) → Int → Int → Int → Int → List (S96) → Int → Int → Option (Int × Int)
  | 0, _, _, _, _, _, _, _, _ => none
  | k + 1, x1, x2, x3, x12, x13, x20, x21, x22 => if x22 < x21 then (if 0 ≤ x22 then (if x22 < (x20.length : Int) then ((impl_MovedIn.f k x1 x2 ((rd_T96 x20 x22).f2)).bind fun bt435 => ((impl_DownBound_1.f (mx 0 (wrap64 ((wrap64 (x3 - bt435.1)) + bt435.2))) ((rd_T96 x20 x22).f0) ((rd_T96 x20 x22).f1) ((rd_T96 x20 x22).f2)).bind fun t437 => (impl_boundsDown.l0 k x1 x2 x3 (mn x12 t437) (mx x13 t437) x20 x21 (wrap64 (x22 + 1))))) else (none)) else (none)) else (some (x12, x13))
def impl_boundsDown.f (k : Nat) (l0_0 : List (S96)) (a0_1 : Int) (a0_2 : Int) (l1 : List (S103)) (a2 : Int) (a3 : Int) (a4 : Int) : Option (Int × Int) := impl_boundsDown.l0 k l1 a2 a3 1000 0 l0_0 (l0_0.length : Int) 0
theorem impl_boundsDown.mono_l : ∀ k, (∀ y0 y1 y2 y3 y4 y5 y6 y7, LeO (impl_boundsDown.l0 k y0 y1 y2 y3 y4 y5 y6 y7) (impl_boundsDown.l0 (k + 1) y0 y1 y2 y3 y4 y5 y6 y7))
  | 0 => fun _ _ _ _ _ _ _ _ r h => by simp [impl_boundsDown.l0] at h
  | k + 1 => by
    have ih0 := impl_boundsDown.mono_l k
    · intro y0 y1 y2 y3 y4 y5 y6 y7
      unfold impl_boundsDown.l0
      repeat' with_reducible first | exact ih0 _ _ _ _ _ _ _ _ | exact impl_MovedIn.mono _ _ _ _ | exact LeO.refl _ | exact LeO.none _ | refine LeO.ite ?_ ?_ | refine LeO.bind ?_ (fun _ => ?_)
theorem impl_boundsDown.mono : ∀ a0 a1 a2 a3 a4 a5 a6 k, LeO (impl_boundsDown.f k a0 a1 a2 a3 a4 a5 a6) (impl_boundsDown.f (k + 1) a0 a1 a2 a3 a4 a5 a6) := by
  intro a0 a1 a2 a3 a4 a5 a6 k
  have ih0 := impl_boundsDown.mono_l k
  unfold impl_boundsDown.f
  repeat' with_reducible first | exact ih0 _ _ _ _ _ _ _ _ | exact impl_MovedIn.mono _ _ _ _ | exact LeO.refl _ | exact LeO.none _ | refine LeO.ite ?_ ?_ | refine LeO.bind ?_ (fun _ => ?_)
set_option maxHeartbeats 8000000 in
set_option maxRecDepth 100000 in
theorem impl_boundsDown.calls (k : Nat) (A0_0 : Option Addr) (c0_0 : Nat) (l0_0 : List (S96)) (a0_1 : Int) (a0_2 : Int) (A1 : Option Addr) (c1 : Nat) (l1 : List (S103)) (a2 : Int) (a3 : Int) (a4 : Int) (r1 : Int) (r2 : Int) (w : World) (hr0_0 : Kd.C k96 w A0_0 l0_0.length l0_0) (hc0_0 : l0_0.length ≤ c0_0) (hr1 : Kd.C k103 w A1 l1.length l1) (hc1 : l1.length ≤ c1) (h : impl_boundsDown.f k l0_0 a0_1 a0_2 l1 a2 a3 a4 = some (r1, r2)) :
  Calls Try.prog 69 #[.agg #[.slice A0_0 l0_0.length c0_0, .int .i64 a0_1, .int .i64 a0_2], .slice A1 l1.length c1, .int .i64 a2, .int .i64 a3, .func (.func 72) #[] #[]] w fun e w' => e = .returned (.tuple #[.int .i64 r1, .int .i64 r2]) ∧ Below w.heap.size w w' := by
 have hu33 := Try.underlying33
 have hu96 := Try.underlying96
 have HR0_0 := ak_ hr0_0
 have HC0_0 := ak_ hc0_0
 clear hr0_0 hc0_0
 have HR1 := ak_ hr1
 have HC1 := ak_ hc1
 clear hr1 hc1
 have HB := ak_ (Below.refl w.heap.size w)
 have H : (impl_boundsDown.l0 k l1 a2 a3 1000 0 l0_0 (l0_0.length : Int) 0) = some (r1, r2) := h
 clear h
 have H' := ak_ H
 clear H
 go_enter Try.func69, Try.ntmps69
 go_wp2_with (first | ((with_reducible refine gate_dst (N := 5) rfl ?_); refine be_ (N := 5) (cs := #[.slice A0_0 l0_0.length c0_0, .int .i64 a0_1, .int .i64 a0_2]) (t := 33) ?_; intro gb432 hg w6 hbox hb; have BK432 := ak_ hbox; have GW432 := ak_ ((gs_ hg : w.heap.size ≤ gb432)); have GE432 := ak_ ((gs_ hg : w.heap.size ≤ gb432)); replace HB := ak_ (below_step hb_ hb); clear hb hbox hg; obtain ⟨hcz7_0, hcz7_1, hcz7_2, hfz7_0, hfz7_1, hfz7_2⟩ := bc3_ BK432.out))
 go_loopg [12, 13, 22] k (fun kq v12 v13 v22 w' => ∃ (x12_1 : Int) (x13_1 : Int) (x22_1 : Int), v12 = .int .i64 x12_1 ∧ v13 = .int .i64 x13_1 ∧ v22 = .int .i64 x22_1 ∧ Aside0 (impl_boundsDown.l0 kq l1 a2 a3 x12_1 x13_1 l0_0 (l0_0.length : Int) x22_1 = some (r1, r2)) ∧ Aside0 (kq ≤ k) ∧ Aside0 (w'.heap[gb432]? = some (.cells #[(.slice A0_0 l0_0.length c0_0), .int .i64 a0_1, .int .i64 a0_2] 33 (0, 0))) ∧ Aside0 (Below w.heap.size w w'))
 case atStart => exact ⟨(1000), (0), (0), (by first | rfl | (simp; done) | (simp [*]; done)), (by first | rfl | (simp; done) | (simp [*]; done)), (by first | rfl | (simp; done) | (simp [*]; done)), H', ⟨Nat.le_refl _⟩, ⟨by (with_reducible repeat (first | refine kn_ ?_ _ | refine kd_ ?_ | refine ka_ ?_ _)); exact BK432.out⟩, ⟨hb_⟩⟩
 case round =>
  clear H'
  try clear c1
  try clear p2
  (try clear hcz7_0 hcz7_1 hcz7_2 hfz7_0 hfz7_1 hfz7_2)
  obtain ⟨x12_1, x13_1, x22_1, rfl, rfl, rfl, HA, HK1, BK432, HB⟩ := hrel
  cases gk with
  | zero => exact absurd HA.out (by simp [impl_boundsDown.l0])
  | succ k1 =>
   have H := HA.out
   clear HA
   simp only [impl_boundsDown.l0] at H
   by_cases c8 : x22_1 < (l0_0.length : Int)
   ·rw [if_pos c8] at H
    have c8b0 : decide (x22_1 < (l0_0.length : Int)) = true := decide_eq_true c8
    clear c8
    by_cases c9 : 0 ≤ x22_1
    ·rw [if_pos c9] at H
     have c9b0 : decide (0 ≤ x22_1) = true := decide_eq_true c9
     clear c9
     by_cases c10 : x22_1 < (l0_0.length : Int)
     ·rw [if_pos c10] at H
      have c10b0 : decide (x22_1 < (l0_0.length : Int)) = true := decide_eq_true c10
      clear c10
      replace H := Option.bind_eq_some_iff.mp H
      obtain ⟨⟨t435, t436⟩, A110, H⟩ := H
      replace H : ((impl_DownBound_1.f (mx 0 (wrap64 ((wrap64 (a3 - t435)) + t436))) ((rd_T96 l0_0 x22_1).f0) ((rd_T96 l0_0 x22_1).f1) ((rd_T96 l0_0 x22_1).f2)).bind fun t437 => (impl_boundsDown.l0 k1 l1 a2 a3 (mn x12_1 t437) (mx x13_1 t437) l0_0 (l0_0.length : Int) (wrap64 (x22_1 + 1)))) = some (r1, r2) := H
      have A11 := ak_ A110
      clear A110
      obtain ⟨ji12, hji12⟩ : ∃ j_ : Int, (mx 0 (wrap64 ((wrap64 (a3 - t435)) + t436))) = j_ := ⟨_, rfl⟩
      replace H : ((impl_DownBound_1.f (ji12) ((rd_T96 l0_0 x22_1).f0) ((rd_T96 l0_0 x22_1).f1) ((rd_T96 l0_0 x22_1).f2)).bind fun t437 => (impl_boundsDown.l0 k1 l1 a2 a3 (mn x12_1 t437) (mx x13_1 t437) l0_0 (l0_0.length : Int) (wrap64 (x22_1 + 1)))) = some (r1, r2) := by first | (rw [hji12] at H; exact H) | (simp only [hji12] at H ⊢; exact H)
      (try rw [hji12] at A11)
      have hji12_ : (if 0 < (wrap64 ((wrap64 (a3 - t435)) + t436)) then (wrap64 ((wrap64 (a3 - t435)) + t436)) else 0) = ji12 := hji12
      replace H := Option.bind_eq_some_iff.mp H
      obtain ⟨t437, A130, H⟩ := H
      replace H : (impl_boundsDown.l0 k1 l1 a2 a3 (mn x12_1 t437) (mx x13_1 t437) l0_0 (l0_0.length : Int) (wrap64 (x22_1 + 1))) = some (r1, r2) := H
      have A13 := ak_ A130
      clear A130
      obtain ⟨ji14, hji14⟩ : ∃ j_ : Int, (mn x12_1 t437) = j_ := ⟨_, rfl⟩
      replace H : (impl_boundsDown.l0 k1 l1 a2 a3 ji14 (mx x13_1 t437) l0_0 (l0_0.length : Int) (wrap64 (x22_1 + 1))) = some (r1, r2) := by first | (rw [hji14] at H; exact H) | (simp only [hji14] at H ⊢; exact H)
      (try rw [hji14] at A11)
      (try rw [hji14] at A13)
      have hji14_ : (if t437 < x12_1 then t437 else x12_1) = ji14 := hji14
      obtain ⟨ji15, hji15⟩ : ∃ j_ : Int, (mx x13_1 t437) = j_ := ⟨_, rfl⟩
      replace H : (impl_boundsDown.l0 k1 l1 a2 a3 ji14 ji15 l0_0 (l0_0.length : Int) (wrap64 (x22_1 + 1))) = some (r1, r2) := by first | (rw [hji15] at H; exact H) | (simp only [hji15] at H ⊢; exact H)
      (try rw [hji15] at A11)
      (try rw [hji15] at A13)
      have hji15_ : (if x13_1 < t437 then t437 else x13_1) = ji15 := hji15
      have H' := ak_ H
      clear H
      have p433 : 0 ≤ (x22_1 : Int) := of_decide_eq_true (by first | (with_reducible assumption) | assumption)
      have q433 : x22_1 < (l0_0.length : Int) := of_decide_eq_true (by first | (with_reducible assumption) | assumption)
      obtain ⟨ad433, e433, hx433_0, hx433_1, hx433_2⟩ := at_T96 HR0_0.out x22_1 p433 q433
      cases e433
      replace hx433_0 := cx_ HB hx433_0
      replace hx433_1 := cx_ HB hx433_1
      replace hx433_2 := cx_ HB hx433_2
      replace p433 := eq_true p433
      replace q433 := eq_true q433
      go_wp2_with (first | ((with_reducible refine gate_dst (N := 15) rfl ?_); refine be_ (N := 15) (cs := #[.int .i64 0, .int .i64 0, .int .i64 0]) (t := 96) ?_; intro gb434 hg w16 hbox hb; have BK434 := ak_ hbox; have GW434 := ak_ ((gs_ hg : w.heap.size ≤ gb434)); have GE434 := ak_ ((gs_ hg : w.heap.size ≤ gb434)); replace HB := ak_ (below_step hb_ hb); have NB432_434 := ak_ (nl_ hg (bk_ BK432)); have NB434_432 := ak_ (ng_ hg (bk_ BK432)); replace BK432 := ak_ (blk_below (bk_ BK432) hb); clear hb hbox hg; have hnb17 := NB434_432.out; have hnc17 := NB432_434.out; obtain ⟨hcz18_0, hcz18_1, hcz18_2, hfz18_0, hfz18_1, hfz18_2⟩ := bc3_ BK434.out) | ((with_reducible refine gate_callee (f := 31) rfl ?_); refine goesL_ (some 31) rfl rfl Try.func31 (by kernel_rfl) rfl #[.slice A1 l1.length c1, .int .i64 a2, .int .i64 ((rd_T96 l0_0 x22_1).f2)] rfl (ma3_ rfl rfl rfl) ?_; (with_reducible refine (impl_MovedIn.calls k1 _ _ l1 a2 ((rd_T96 l0_0 x22_1).f2) t435 t436 _ ?side1 ?side2 A11.out).mono ?_); (case side1 => exact Kd.C_below HR1.out hb_); (case side2 => exact HC1.out); rintro e w19 ⟨rfl, hb⟩; refine ⟨_, rfl, ?_⟩; replace BK432 := ak_ (blk_below (bk_ BK432) hb); replace BK434 := ak_ (blk_below (g := gb434) (o := .cells #[.int .i64 ((rd_T96 l0_0 x22_1).f0), .int .i64 ((rd_T96 l0_0 x22_1).f1), .int .i64 ((rd_T96 l0_0 x22_1).f2)] 96 (0, 0)) (by (with_reducible repeat (first | refine kn_ ?_ _ | refine kd_ ?_ | refine ka_ ?_ _)); refine blk_put (cs := #[.int .i64 ((rd_T96 l0_0 x22_1).f0), .int .i64 ((rd_T96 l0_0 x22_1).f1), .int .i64 0]) ?_ 2 _ rfl; (with_reducible repeat (first | refine kn_ ?_ _ | refine kd_ ?_ | refine ka_ ?_ _)); refine blk_put (cs := #[.int .i64 ((rd_T96 l0_0 x22_1).f0), .int .i64 0, .int .i64 0]) ?_ 1 _ rfl; (with_reducible repeat (first | refine kn_ ?_ _ | refine kd_ ?_ | refine ka_ ?_ _)); refine blk_put (cs := #[.int .i64 0, .int .i64 0, .int .i64 0]) ?_ 0 _ rfl; (with_reducible repeat (first | refine kn_ ?_ _ | refine kd_ ?_ | refine ka_ ?_ _)); exact BK434.out) hb); replace HB := ak_ (below_step hb_ hb); (try clear hb); obtain ⟨hcz20_0, hcz20_1, hcz20_2, hfz20_0, hfz20_1, hfz20_2⟩ := bc3_ BK434.out) | (refine goesV_ (some 42) rfl rfl Try.func72 (by kernel_rfl) rfl #[.int .i64 ji12, .agg #[.int .i64 ((rd_T96 l0_0 x22_1).f0), .int .i64 ((rd_T96 l0_0 x22_1).f1), .int .i64 ((rd_T96 l0_0 x22_1).f2)]] rfl rfl (by (try simp only [List.map_toArray, List.map_cons, List.map_nil]); first | done | (simp only [hji12]; rfl) | rfl | (simp only [List.length_drop, List.length_take]; rfl)) ?_; (with_reducible refine (impl_DownBound_1.calls ji12 ((rd_T96 l0_0 x22_1).f0) ((rd_T96 l0_0 x22_1).f1) ((rd_T96 l0_0 x22_1).f2) t437 _ A13.out).mono ?_); rintro e w21 ⟨rfl, hb⟩; refine ⟨_, rfl, ?_⟩; replace BK432 := ak_ (blk_below (bk_ BK432) hb); replace BK434 := ak_ (blk_below (bk_ BK434) hb); replace HB := ak_ (below_step hb_ hb); (try clear hb)))
      go_roundg k1
      case measure => have := HK1.out; omega
      case rel => exact ⟨(ji14), (ji15), (wrap64 (x22_1 + 1)), (by first | rfl | (simp; done) | (simp only [← hji14] <;> (first | rfl | simp)) | (simp [*]; done)), (by first | rfl | (simp; done) | (simp only [← hji15] <;> (first | rfl | simp)) | (simp [*]; done)), (by first | rfl | (simp; done) | (simp [*]; done)), H', ⟨by have := HK1.out; omega⟩, ⟨by (with_reducible repeat (first | refine kn_ ?_ _ | refine kd_ ?_ | refine ka_ ?_ _)); exact BK432.out⟩, ⟨hb_⟩⟩
     ·rw [if_neg c10] at H
      exact absurd H (by simp)
    ·rw [if_neg c9] at H
     exact absurd H (by simp)
   ·rw [if_neg c8] at H
    have c8b0 : decide (x22_1 < (l0_0.length : Int)) = false := decide_eq_false c8
    clear c8
    simp only [Option.some.injEq, Prod.mk.injEq] at H
    obtain ⟨rfl, rfl⟩ := H
    go_wp2
    go_ret2
    exact ⟨ew_, hb_⟩

end Go.Proofs.Ytfjjlipfjddaiaa.Bo
