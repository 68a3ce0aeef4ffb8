-- PRINTED by print.py (a twelfth state) out of the translation. Not trusted: Lean checks it.
import Derived.Test.YtfjjlipfjddaiaaSt0
import Derived.Test.YtfjjlipfjddaiaaSt7
namespace Go.Proofs.Ytfjjlipfjddaiaa.St
open Go.RowKit Go.Proofs.YtfjjlipfjddaiaaW.PrintWords Go.Proofs.YtfjjlipfjddaiaaW.PrintLast Go.Proofs.YtfjjlipfjddaiaaW.PrintMore
attribute [local go_sem] max2_int min2_int max_two min_two max_three min_three max_four min_four   -- for this text's walks alone
set_option linter.unusedVariables false
set_option linter.unusedSimpArgs false

/-! ### impl_SideOk: function 65 -/
def impl_SideOk.l0 : Nat → List (S96) → Int → Int → List (S96) → Int → Int → Option (Bool)
  | 0, _, _, _, _, _, _ => none
  | k + 1, x6, x7, x8, x341000, x341001, x341002 => if x8 < x7 then (if 0 ≤ x8 then (if x8 < (x6.length : Int) then ((impl_in.f ((rd_T96 x6 x8).f0) 0 1).bind fun t345 => (if t345 = true then ((impl_in.f ((rd_T96 x6 x8).f1) 1 1000).bind fun t346 => (if t346 = true then ((impl_in.f ((rd_T96 x6 x8).f2) 1 1000).bind fun t347 => (if t347 = true then (impl_SideOk.l0 k x6 x7 (wrap64 (x8 + 1)) x341000 x341001 x341002) else (some false))) else (some false))) else (some false))) else (none)) else (none)) else (if (x341000.length : Int) ≤ 3 then ((impl_in.f x341001 0 2).bind fun t341 => (if t341 = true then ((impl_in.f x341002 0 1000).bind fun t342 => (some t342)) else (some false))) else (some false))
def impl_SideOk.f (k : Nat) (l0_0 : List (S96)) (a0_1 : Int) (a0_2 : Int) : Option (Bool) := impl_SideOk.l0 k l0_0 (l0_0.length : Int) 0 l0_0 a0_1 a0_2
theorem impl_SideOk.mono_l : ∀ k, (∀ y0 y1 y2 y3 y4 y5, LeO (impl_SideOk.l0 k y0 y1 y2 y3 y4 y5) (impl_SideOk.l0 (k + 1) y0 y1 y2 y3 y4 y5))
  | 0 => fun _ _ _ _ _ _ r h => by simp [impl_SideOk.l0] at h
  | k + 1 => by
    have ih0 := impl_SideOk.mono_l k
    · intro y0 y1 y2 y3 y4 y5
      unfold impl_SideOk.l0
      repeat' with_reducible first | exact ih0 _ _ _ _ _ _ | exact LeO.refl _ | exact LeO.none _ | refine LeO.ite ?_ ?_ | refine LeO.bind ?_ (fun _ => ?_)
theorem impl_SideOk.mono : ∀ a0 a1 a2 k, LeO (impl_SideOk.f k a0 a1 a2) (impl_SideOk.f (k + 1) a0 a1 a2) := by
  intro a0 a1 a2 k
  have ih0 := impl_SideOk.mono_l k
  unfold impl_SideOk.f
  repeat' with_reducible first | exact ih0 _ _ _ _ _ _ | exact LeO.refl _ | exact LeO.none _ | refine LeO.ite ?_ ?_ | refine LeO.bind ?_ (fun _ => ?_)
set_option maxHeartbeats 8000000 in
set_option maxRecDepth 100000 in
theorem impl_SideOk.calls (k : Nat) (A0_0 : Option Addr) (c0_0 : Nat) (l0_0 : List (S96)) (a0_1 : Int) (a0_2 : Int) (r : Bool) (w : World) (hr0_0 : Kd.C k96 w A0_0 l0_0.length l0_0) (hc0_0 : l0_0.length ≤ c0_0) (h : impl_SideOk.f k l0_0 a0_1 a0_2 = some r) :
  Calls Try.prog 65 #[.agg #[.slice A0_0 l0_0.length c0_0, .int .i64 a0_1, .int .i64 a0_2]] w fun e w' => e = .returned (.bool r) ∧ Below w.heap.size w w' := by
 have hu33 := Try.underlying33
 have hu96 := Try.underlying96
 have HR0_0 := Aside0.mk hr0_0
 have HC0_0 := Aside0.mk hc0_0
 clear hr0_0 hc0_0
 have HB := Aside0.mk (Below.refl w.heap.size w)
 have H : (impl_SideOk.l0 k l0_0 (l0_0.length : Int) 0 l0_0 a0_1 a0_2) = some r := h
 clear h
 have H' := Aside0.mk H
 clear H
 go_enter Try.func65, Try.ntmps65
 go_wp2_with (first | ((with_reducible refine gate_dst (N := 1) rfl ?_); refine be_ (N := 1) (cs := #[.slice A0_0 l0_0.length c0_0, .int .i64 a0_1, .int .i64 a0_2]) (t := 33) ?_; intro gb340 hg w2 hbox hb; have BK340 := ak_ hbox; have GW340 := ak_ ((gs_ hg : w.heap.size ≤ gb340)); have GE340 := ak_ ((gs_ hg : w.heap.size ≤ gb340)); replace HB := ak_ (below_step hb_ hb); clear hb hbox hg; obtain ⟨hcz3_0, hcz3_1, hcz3_2, hfz3_0, hfz3_1, hfz3_2⟩ := bc3_ BK340.out))
 go_loopg [8] k (fun kq v8 w' => ∃ (x8_1 : Int), v8 = .int .i64 x8_1 ∧ Aside0 (impl_SideOk.l0 kq l0_0 (l0_0.length : Int) x8_1 l0_0 a0_1 a0_2 = some r) ∧ Aside0 (kq ≤ k) ∧ Aside0 (w'.heap[gb340]? = some (.cells #[(.slice A0_0 l0_0.length c0_0), .int .i64 a0_1, .int .i64 a0_2] 33 (0, 0))) ∧ Aside0 (Below w.heap.size w w'))
 case atStart => exact ⟨(0), (by first | rfl | (simp; done) | (simp [*]; done)), H', ⟨Nat.le_refl _⟩, ⟨by (with_reducible repeat (first | refine blk_drewN ?_ _ | refine blk_drew ?_ | refine blk_alloc ?_ _)); exact BK340.out⟩, ⟨hb_⟩⟩
 case round =>
  clear H'
  try clear p2
  try clear hcz3_0
  try clear hcz3_1
  try clear hcz3_2
  try clear hfz3_0
  try clear hfz3_1
  try clear hfz3_2
  obtain ⟨x8_1, rfl, HA, HK1, BK340, HB⟩ := hrel
  cases gk with
  | zero => exact absurd HA.out (by simp [impl_SideOk.l0])
  | succ k1 =>
   have H := HA.out
   clear HA
   simp only [impl_SideOk.l0] at H
   by_cases c4 : x8_1 < (l0_0.length : Int)
   ·rw [if_pos c4] at H
    have c4b0 : decide (x8_1 < (l0_0.length : Int)) = true := decide_eq_true c4
    clear c4
    by_cases c5 : 0 ≤ x8_1
    ·rw [if_pos c5] at H
     have c5b0 : decide (0 ≤ x8_1) = true := decide_eq_true c5
     clear c5
     by_cases c6 : x8_1 < (l0_0.length : Int)
     ·rw [if_pos c6] at H
      have c6b0 : decide (x8_1 < (l0_0.length : Int)) = true := decide_eq_true c6
      clear c6
      replace H := Option.bind_eq_some_iff.mp H
      obtain ⟨t345, A70, H⟩ := H
      replace H : (if t345 = true then ((impl_in.f ((rd_T96 l0_0 x8_1).f1) 1 1000).bind fun t346 => (if t346 = true then ((impl_in.f ((rd_T96 l0_0 x8_1).f2) 1 1000).bind fun t347 => (if t347 = true then (impl_SideOk.l0 k1 l0_0 (l0_0.length : Int) (wrap64 (x8_1 + 1)) l0_0 a0_1 a0_2) else (some false))) else (some false))) else (some false)) = some r := H
      have A7 := Aside0.mk A70
      clear A70
      by_cases c8 : t345 = true
      ·subst c8
       rw [if_pos rfl] at H
       replace H := Option.bind_eq_some_iff.mp H
       obtain ⟨t346, A90, H⟩ := H
       replace H : (if t346 = true then ((impl_in.f ((rd_T96 l0_0 x8_1).f2) 1 1000).bind fun t347 => (if t347 = true then (impl_SideOk.l0 k1 l0_0 (l0_0.length : Int) (wrap64 (x8_1 + 1)) l0_0 a0_1 a0_2) else (some false))) else (some false)) = some r := H
       have A9 := Aside0.mk A90
       clear A90
       by_cases c10 : t346 = true
       ·subst c10
        rw [if_pos rfl] at H
        replace H := Option.bind_eq_some_iff.mp H
        obtain ⟨t347, A110, H⟩ := H
        replace H : (if t347 = true then (impl_SideOk.l0 k1 l0_0 (l0_0.length : Int) (wrap64 (x8_1 + 1)) l0_0 a0_1 a0_2) else (some false)) = some r := H
        have A11 := Aside0.mk A110
        clear A110
        by_cases c12 : t347 = true
        ·subst c12
         rw [if_pos rfl] at H
         have H' := Aside0.mk H
         clear H
         have p343 : 0 ≤ (x8_1 : Int) := of_decide_eq_true (by first | (with_reducible assumption) | assumption)
         have q343 : x8_1 < (l0_0.length : Int) := of_decide_eq_true (by first | (with_reducible assumption) | assumption)
         obtain ⟨ad343, e343, hx343_0, hx343_1, hx343_2⟩ := at_T96 HR0_0.out x8_1 p343 q343
         cases e343
         replace hx343_0 := cx_ HB hx343_0
         replace hx343_1 := cx_ HB hx343_1
         replace hx343_2 := cx_ HB hx343_2
         replace p343 := eq_true p343
         replace q343 := eq_true q343
         go_wp2_with (first | ((with_reducible refine gate_dst (N := 4) rfl ?_); refine be_ (N := 4) (cs := #[.int .i64 0, .int .i64 0, .int .i64 0]) (t := 96) ?_; intro gb344 hg w13 hbox hb; have BK344 := ak_ hbox; have GW344 := ak_ ((gs_ hg : w.heap.size ≤ gb344)); have GE344 := ak_ ((gs_ hg : w.heap.size ≤ gb344)); replace HB := ak_ (below_step hb_ hb); have NB340_344 := ak_ (nl_ hg (bk_ BK340)); have NB344_340 := ak_ (ng_ hg (bk_ BK340)); replace BK340 := ak_ (blk_below (bk_ BK340) hb); clear hb hbox hg; have hnb14 := NB344_340.out; have hnc14 := NB340_344.out; obtain ⟨hcz15_0, hcz15_1, hcz15_2, hfz15_0, hfz15_1, hfz15_2⟩ := bc3_ BK344.out) | ((with_reducible refine gate_callee (f := 82) rfl ?_); refine goesL_ (some 14) rfl rfl Try.func82 (by kernel_rfl) rfl #[.int .i64 ((rd_T96 l0_0 x8_1).f0), .int .i64 0, .int .i64 1] rfl (ma3_ rfl rfl rfl) ?_; (with_reducible refine (impl_in.calls ((rd_T96 l0_0 x8_1).f0) 0 1 true _ A7.out).mono ?_); rintro e w' ⟨rfl, ⟨nd, rfl⟩⟩; refine ⟨_, rfl, ?_⟩) | (go_at_call 82; (with_reducible refine (impl_in.calls ((rd_T96 l0_0 x8_1).f1) 1 1000 true _ A9.out).mono ?_); rintro e w' ⟨rfl, ⟨nd, rfl⟩⟩) | (go_at_call 82; (with_reducible refine (impl_in.calls ((rd_T96 l0_0 x8_1).f2) 1 1000 true _ A11.out).mono ?_); rintro e w' ⟨rfl, ⟨nd, rfl⟩⟩))
         go_roundg k1
         case measure => have := HK1.out; omega
         case rel => exact ⟨(wrap64 (x8_1 + 1)), (by first | rfl | (simp; done) | (simp [*]; done)), H', ⟨by have := HK1.out; omega⟩, ⟨by (with_reducible repeat (first | refine blk_drewN ?_ _ | refine blk_drew ?_ | refine blk_alloc ?_ _)); refine blk_far ?_ NB340_344.out _; (with_reducible repeat (first | refine blk_drewN ?_ _ | refine blk_drew ?_ | refine blk_alloc ?_ _)); refine blk_far ?_ NB340_344.out _; (with_reducible repeat (first | refine blk_drewN ?_ _ | refine blk_drew ?_ | refine blk_alloc ?_ _)); refine blk_far ?_ NB340_344.out _; (with_reducible repeat (first | refine blk_drewN ?_ _ | refine blk_drew ?_ | refine blk_alloc ?_ _)); exact BK340.out⟩, ⟨hb_⟩⟩
        ·replace c12 := Bool.eq_false_iff.mpr c12
         subst c12
         rw [if_neg (show ¬ (false = true) by decide)] at H
         obtain rfl := Option.some.inj H
         have p343 : 0 ≤ (x8_1 : Int) := of_decide_eq_true (by first | (with_reducible assumption) | assumption)
         have q343 : x8_1 < (l0_0.length : Int) := of_decide_eq_true (by first | (with_reducible assumption) | assumption)
         obtain ⟨ad343, e343, hx343_0, hx343_1, hx343_2⟩ := at_T96 HR0_0.out x8_1 p343 q343
         cases e343
         replace hx343_0 := cx_ HB hx343_0
         replace hx343_1 := cx_ HB hx343_1
         replace hx343_2 := cx_ HB hx343_2
         replace p343 := eq_true p343
         replace q343 := eq_true q343
         go_wp2_with (first | ((with_reducible refine gate_dst (N := 4) rfl ?_); refine be_ (N := 4) (cs := #[.int .i64 0, .int .i64 0, .int .i64 0]) (t := 96) ?_; intro gb344 hg w16 hbox hb; have BK344 := ak_ hbox; have GW344 := ak_ ((gs_ hg : w.heap.size ≤ gb344)); have GE344 := ak_ ((gs_ hg : w.heap.size ≤ gb344)); replace HB := ak_ (below_step hb_ hb); have NB340_344 := ak_ (nl_ hg (bk_ BK340)); have NB344_340 := ak_ (ng_ hg (bk_ BK340)); replace BK340 := ak_ (blk_below (bk_ BK340) hb); clear hb hbox hg; have hnb17 := NB344_340.out; have hnc17 := NB340_344.out; obtain ⟨hcz18_0, hcz18_1, hcz18_2, hfz18_0, hfz18_1, hfz18_2⟩ := bc3_ BK344.out) | ((with_reducible refine gate_callee (f := 82) rfl ?_); refine goesL_ (some 14) rfl rfl Try.func82 (by kernel_rfl) rfl #[.int .i64 ((rd_T96 l0_0 x8_1).f0), .int .i64 0, .int .i64 1] rfl (ma3_ rfl rfl rfl) ?_; (with_reducible refine (impl_in.calls ((rd_T96 l0_0 x8_1).f0) 0 1 true _ A7.out).mono ?_); rintro e w' ⟨rfl, ⟨nd, rfl⟩⟩; refine ⟨_, rfl, ?_⟩) | (go_at_call 82; (with_reducible refine (impl_in.calls ((rd_T96 l0_0 x8_1).f1) 1 1000 true _ A9.out).mono ?_); rintro e w' ⟨rfl, ⟨nd, rfl⟩⟩) | (go_at_call 82; (with_reducible refine (impl_in.calls ((rd_T96 l0_0 x8_1).f2) 1 1000 false _ A11.out).mono ?_); rintro e w' ⟨rfl, ⟨nd, rfl⟩⟩))
         go_ret
         exact ⟨ew_, hb_⟩
       ·replace c10 := Bool.eq_false_iff.mpr c10
        subst c10
        rw [if_neg (show ¬ (false = true) by decide)] at H
        obtain rfl := Option.some.inj H
        have p343 : 0 ≤ (x8_1 : Int) := of_decide_eq_true (by first | (with_reducible assumption) | assumption)
        have q343 : x8_1 < (l0_0.length : Int) := of_decide_eq_true (by first | (with_reducible assumption) | assumption)
        obtain ⟨ad343, e343, hx343_0, hx343_1, hx343_2⟩ := at_T96 HR0_0.out x8_1 p343 q343
        cases e343
        replace hx343_0 := cx_ HB hx343_0
        replace hx343_1 := cx_ HB hx343_1
        replace hx343_2 := cx_ HB hx343_2
        replace p343 := eq_true p343
        replace q343 := eq_true q343
        go_wp2_with (first | ((with_reducible refine gate_dst (N := 4) rfl ?_); refine be_ (N := 4) (cs := #[.int .i64 0, .int .i64 0, .int .i64 0]) (t := 96) ?_; intro gb344 hg w19 hbox hb; have BK344 := ak_ hbox; have GW344 := ak_ ((gs_ hg : w.heap.size ≤ gb344)); have GE344 := ak_ ((gs_ hg : w.heap.size ≤ gb344)); replace HB := ak_ (below_step hb_ hb); have NB340_344 := ak_ (nl_ hg (bk_ BK340)); have NB344_340 := ak_ (ng_ hg (bk_ BK340)); replace BK340 := ak_ (blk_below (bk_ BK340) hb); clear hb hbox hg; have hnb20 := NB344_340.out; have hnc20 := NB340_344.out; obtain ⟨hcz21_0, hcz21_1, hcz21_2, hfz21_0, hfz21_1, hfz21_2⟩ := bc3_ BK344.out) | ((with_reducible refine gate_callee (f := 82) rfl ?_); refine goesL_ (some 14) rfl rfl Try.func82 (by kernel_rfl) rfl #[.int .i64 ((rd_T96 l0_0 x8_1).f0), .int .i64 0, .int .i64 1] rfl (ma3_ rfl rfl rfl) ?_; (with_reducible refine (impl_in.calls ((rd_T96 l0_0 x8_1).f0) 0 1 true _ A7.out).mono ?_); rintro e w' ⟨rfl, ⟨nd, rfl⟩⟩; refine ⟨_, rfl, ?_⟩) | (go_at_call 82; (with_reducible refine (impl_in.calls ((rd_T96 l0_0 x8_1).f1) 1 1000 false _ A9.out).mono ?_); rintro e w' ⟨rfl, ⟨nd, rfl⟩⟩))
        go_ret
        exact ⟨ew_, hb_⟩
      ·replace c8 := Bool.eq_false_iff.mpr c8
       subst c8
       rw [if_neg (show ¬ (false = true) by decide)] at H
       obtain rfl := Option.some.inj H
       have p343 : 0 ≤ (x8_1 : Int) := of_decide_eq_true (by first | (with_reducible assumption) | assumption)
       have q343 : x8_1 < (l0_0.length : Int) := of_decide_eq_true (by first | (with_reducible assumption) | assumption)
       obtain ⟨ad343, e343, hx343_0, hx343_1, hx343_2⟩ := at_T96 HR0_0.out x8_1 p343 q343
       cases e343
       replace hx343_0 := cx_ HB hx343_0
       replace hx343_1 := cx_ HB hx343_1
       replace hx343_2 := cx_ HB hx343_2
       replace p343 := eq_true p343
       replace q343 := eq_true q343
       go_wp2_with (first | ((with_reducible refine gate_dst (N := 4) rfl ?_); refine be_ (N := 4) (cs := #[.int .i64 0, .int .i64 0, .int .i64 0]) (t := 96) ?_; intro gb344 hg w22 hbox hb; have BK344 := ak_ hbox; have GW344 := ak_ ((gs_ hg : w.heap.size ≤ gb344)); have GE344 := ak_ ((gs_ hg : w.heap.size ≤ gb344)); replace HB := ak_ (below_step hb_ hb); have NB340_344 := ak_ (nl_ hg (bk_ BK340)); have NB344_340 := ak_ (ng_ hg (bk_ BK340)); replace BK340 := ak_ (blk_below (bk_ BK340) hb); clear hb hbox hg; have hnb23 := NB344_340.out; have hnc23 := NB340_344.out; obtain ⟨hcz24_0, hcz24_1, hcz24_2, hfz24_0, hfz24_1, hfz24_2⟩ := bc3_ BK344.out) | ((with_reducible refine gate_callee (f := 82) rfl ?_); refine goesL_ (some 14) rfl rfl Try.func82 (by kernel_rfl) rfl #[.int .i64 ((rd_T96 l0_0 x8_1).f0), .int .i64 0, .int .i64 1] rfl (ma3_ rfl rfl rfl) ?_; (with_reducible refine (impl_in.calls ((rd_T96 l0_0 x8_1).f0) 0 1 false _ A7.out).mono ?_); rintro e w' ⟨rfl, ⟨nd, rfl⟩⟩; refine ⟨_, rfl, ?_⟩))
       go_ret
       exact ⟨ew_, hb_⟩
     ·rw [if_neg c6] at H
      exact absurd H (by simp)
    ·rw [if_neg c5] at H
     exact absurd H (by simp)
   ·rw [if_neg c4] at H
    have c4b0 : decide (x8_1 < (l0_0.length : Int)) = false := decide_eq_false c4
    clear c4
    by_cases c25 : (l0_0.length : Int) ≤ 3
    ·rw [if_pos c25] at H
     have c25b0 : decide ((l0_0.length : Int) ≤ 3) = true := decide_eq_true c25
     have c25b1 : decide (l0_0.length ≤ 3) = true := decide_eq_true (by omega)
     clear c25
     replace H := Option.bind_eq_some_iff.mp H
     obtain ⟨t341, A260, H⟩ := H
     replace H : (if t341 = true then ((impl_in.f a0_2 0 1000).bind fun t342 => (some t342)) else (some false)) = some r := H
     have A26 := Aside0.mk A260
     clear A260
     by_cases c27 : t341 = true
     ·subst c27
      rw [if_pos rfl] at H
      replace H := Option.bind_eq_some_iff.mp H
      obtain ⟨t342, A280, H⟩ := H
      replace H : (some t342) = some r := H
      have A28 := Aside0.mk A280
      clear A280
      obtain rfl := Option.some.inj H
      obtain ⟨hcz29_0, hcz29_1, hcz29_2, hfz29_0, hfz29_1, hfz29_2⟩ := bc3_ BK340.out
      go_wp2_with (first | (go_at_call 82; (with_reducible refine (impl_in.calls a0_1 0 2 true _ A26.out).mono ?_); rintro e w' ⟨rfl, ⟨nd, rfl⟩⟩) | (go_at_call 82; (with_reducible refine (impl_in.calls a0_2 0 1000 t342 _ A28.out).mono ?_); rintro e w' ⟨rfl, ⟨nd, rfl⟩⟩))
      go_ret
      exact ⟨ew_, hb_⟩
     ·replace c27 := Bool.eq_false_iff.mpr c27
      subst c27
      rw [if_neg (show ¬ (false = true) by decide)] at H
      obtain rfl := Option.some.inj H
      obtain ⟨hcz30_0, hcz30_1, hcz30_2, hfz30_0, hfz30_1, hfz30_2⟩ := bc3_ BK340.out
      go_wp2_with (first | (go_at_call 82; (with_reducible refine (impl_in.calls a0_1 0 2 false _ A26.out).mono ?_); rintro e w' ⟨rfl, ⟨nd, rfl⟩⟩))
      go_ret
      exact ⟨ew_, hb_⟩
    ·rw [if_neg c25] at H
     have c25b0 : decide ((l0_0.length : Int) ≤ 3) = false := decide_eq_false c25
     have c25b1 : decide (l0_0.length ≤ 3) = false := decide_eq_false (by omega)
     clear c25
     obtain rfl := Option.some.inj H
     obtain ⟨hcz31_0, hcz31_1, hcz31_2, hfz31_0, hfz31_1, hfz31_2⟩ := bc3_ BK340.out
     go_wp2
     go_ret
     exact ⟨ew_, hb_⟩

end Go.Proofs.Ytfjjlipfjddaiaa.St
