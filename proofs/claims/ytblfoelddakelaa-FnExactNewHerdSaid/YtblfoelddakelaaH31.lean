-- PRINTED by print.py (a twelfth state) out of the translation. Not trusted: Lean checks it.
import Derived.Test.YtblfoelddakelaaH0
import Derived.Test.YtblfoelddakelaaH28
namespace Go.Proofs.Ytblfoelddakelaa.H
open Go.RowKit Go.Proofs.YtblfoelddakelaaW.PrintWords Go.Proofs.YtblfoelddakelaaW.PrintLast Go.Proofs.YtblfoelddakelaaW.PrintMore
attribute [local go_sem] max2_int min2_int max_two min_two max_three min_three max_four min_four   -- for this text's walks alone
set_option linter.unusedVariables false
set_option linter.unusedSimpArgs false

/-! ### impl_SideOk: function 77 -/
def impl_SideOk.l0 : Nat → List (S71) → Int → Int → List (S71) → Int → Int → Option (Bool)
  | 0, _, _, _, _, _, _ => none
  | k + 1, x6, x7, x8, x312000, x312001, x312002 => if x8 < x7 then (if 0 ≤ x8 then (if x8 < (x6.length : Int) then ((impl_in.f ((rd_T71 x6 x8).f0) 0 1).bind fun t316 => (if t316 = true then ((impl_in.f ((rd_T71 x6 x8).f1) 1 1000).bind fun t317 => (if t317 = true then ((impl_in.f ((rd_T71 x6 x8).f2) 1 1000).bind fun t318 => (if t318 = true then (impl_SideOk.l0 k x6 x7 (wrap64 (x8 + 1)) x312000 x312001 x312002) else (some false))) else (some false))) else (some false))) else (none)) else (none)) else (if (x312000.length : Int) ≤ 3 then ((impl_in.f x312001 0 2).bind fun t312 => (if t312 = true then ((impl_in.f x312002 0 1000).bind fun t313 => (some t313)) else (some false))) else (some false))
def impl_SideOk.f (k : Nat) (l0_0 : List (S71)) (a0_1 : Int) (a0_2 : Int) : Option (Bool) := impl_SideOk.l0 k l0_0 (l0_0.length : Int) 0 l0_0 a0_1 a0_2
theorem impl_SideOk.mono_l : ∀ k, (∀ y0 y1 y2 y3 y4 y5, LeO (impl_SideOk.l0 k y0 y1 y2 y3 y4 y5) (impl_SideOk.l0 (k + 1) y0 y1 y2 y3 y4 y5))
  | 0 => fun _ _ _ _ _ _ r h => by simp [impl_SideOk.l0] at h
  | k + 1 => by
    have ih0 := impl_SideOk.mono_l k
    · intro y0 y1 y2 y3 y4 y5
      unfold impl_SideOk.l0
      repeat' with_reducible first | exact ih0 _ _ _ _ _ _ | exact LeO.refl _ | exact LeO.none _ | refine LeO.ite ?_ ?_ | refine LeO.bind ?_ (fun _ => ?_)
theorem impl_SideOk.mono : ∀ a0 a1 a2 k, LeO (impl_SideOk.f k a0 a1 a2) (impl_SideOk.f (k + 1) a0 a1 a2) := by
  intro a0 a1 a2 k
  have ih0 := impl_SideOk.mono_l k
  unfold impl_SideOk.f
  repeat' with_reducible first | exact ih0 _ _ _ _ _ _ | exact LeO.refl _ | exact LeO.none _ | refine LeO.ite ?_ ?_ | refine LeO.bind ?_ (fun _ => ?_)
set_option maxHeartbeats 8000000 in
set_option maxRecDepth 100000 in
theorem impl_SideOk.calls (k : Nat) (A0_0 : Option Addr) (c0_0 : Nat) (l0_0 : List (S71)) (a0_1 : Int) (a0_2 : Int) (r : Bool) (w : World) (hr0_0 : Kd.C k71 w A0_0 l0_0.length l0_0) (hc0_0 : l0_0.length ≤ c0_0) (h : impl_SideOk.f k l0_0 a0_1 a0_2 = some r) :
  Calls Try.prog 77 #[.agg #[.slice A0_0 l0_0.length c0_0, .int .i64 a0_1, .int .i64 a0_2]] w fun e w' => e = .returned (.bool r) ∧ Below w.heap.size w w' := by
 have hu29 := Try.underlying29
 have hu71 := Try.underlying71
 have HR0_0 := ak_ hr0_0
 have HC0_0 := ak_ hc0_0
 clear hr0_0 hc0_0
 have HB := ak_ (Below.refl w.heap.size w)
 have H : (impl_SideOk.l0 k l0_0 (l0_0.length : Int) 0 l0_0 a0_1 a0_2) = some r := h
 clear h
 have H' := ak_ H
 clear H
 go_enter Try.func77, Try.ntmps77
 go_wp2_with (first | ((with_reducible refine gate_dst (N := 1) rfl ?_); refine be_ (N := 1) (cs := #[.slice A0_0 l0_0.length c0_0, .int .i64 a0_1, .int .i64 a0_2]) (t := 29) ?_; intro gb311 hg w2 hbox hb; have BK311 := ak_ hbox; have GW311 := ak_ ((gs_ hg : w.heap.size ≤ gb311)); have GE311 := ak_ ((gs_ hg : w.heap.size ≤ gb311)); replace HB := ak_ (below_step hb_ hb); clear hb hbox hg; obtain ⟨hcz3_0, hcz3_1, hcz3_2, hfz3_0, hfz3_1, hfz3_2⟩ := bc3_ BK311.out))
 go_loopg [8] k (fun kq v8 w' => ∃ (x8_1 : Int), v8 = .int .i64 x8_1 ∧ Aside0 (impl_SideOk.l0 kq l0_0 (l0_0.length : Int) x8_1 l0_0 a0_1 a0_2 = some r) ∧ Aside0 (kq ≤ k) ∧ Aside0 (w'.heap[gb311]? = some (.cells #[(.slice A0_0 l0_0.length c0_0), .int .i64 a0_1, .int .i64 a0_2] 29 (0, 0))) ∧ Aside0 (Below w.heap.size w w'))
 case atStart => exact ⟨(0), (by first | rfl | (simp; done) | (simp [*]; done)), H', ⟨Nat.le_refl _⟩, ⟨by (with_reducible repeat (first | refine kn_ ?_ _ | refine kd_ ?_ | refine ka_ ?_ _)); exact BK311.out⟩, ⟨hb_⟩⟩
 case round =>
  clear H'
  try clear p2
  (try clear hcz3_0 hcz3_1 hcz3_2 hfz3_0 hfz3_1 hfz3_2)
  obtain ⟨x8_1, rfl, HA, HK1, BK311, HB⟩ := hrel
  cases gk with
  | zero => exact absurd HA.out (by simp [impl_SideOk.l0])
  | succ k1 =>
   have H := HA.out
   clear HA
   simp only [impl_SideOk.l0] at H
   by_cases c4 : x8_1 < (l0_0.length : Int)
   ·rw [if_pos c4] at H
    have c4b0 : decide (x8_1 < (l0_0.length : Int)) = true := decide_eq_true c4
    clear c4
    by_cases c5 : 0 ≤ x8_1
    ·rw [if_pos c5] at H
     have c5b0 : decide (0 ≤ x8_1) = true := decide_eq_true c5
     clear c5
     by_cases c6 : x8_1 < (l0_0.length : Int)
     ·rw [if_pos c6] at H
      have c6b0 : decide (x8_1 < (l0_0.length : Int)) = true := decide_eq_true c6
      clear c6
      replace H := Option.bind_eq_some_iff.mp H
      obtain ⟨t316, A70, H⟩ := H
      replace H : (if t316 = true then ((impl_in.f ((rd_T71 l0_0 x8_1).f1) 1 1000).bind fun t317 => (if t317 = true then ((impl_in.f ((rd_T71 l0_0 x8_1).f2) 1 1000).bind fun t318 => (if t318 = true then (impl_SideOk.l0 k1 l0_0 (l0_0.length : Int) (wrap64 (x8_1 + 1)) l0_0 a0_1 a0_2) else (some false))) else (some false))) else (some false)) = some r := H
      have A7 := ak_ A70
      clear A70
      by_cases c8 : t316 = true
      ·subst c8
       rw [if_pos rfl] at H
       replace H := Option.bind_eq_some_iff.mp H
       obtain ⟨t317, A90, H⟩ := H
       replace H : (if t317 = true then ((impl_in.f ((rd_T71 l0_0 x8_1).f2) 1 1000).bind fun t318 => (if t318 = true then (impl_SideOk.l0 k1 l0_0 (l0_0.length : Int) (wrap64 (x8_1 + 1)) l0_0 a0_1 a0_2) else (some false))) else (some false)) = some r := H
       have A9 := ak_ A90
       clear A90
       by_cases c10 : t317 = true
       ·subst c10
        rw [if_pos rfl] at H
        replace H := Option.bind_eq_some_iff.mp H
        obtain ⟨t318, A110, H⟩ := H
        replace H : (if t318 = true then (impl_SideOk.l0 k1 l0_0 (l0_0.length : Int) (wrap64 (x8_1 + 1)) l0_0 a0_1 a0_2) else (some false)) = some r := H
        have A11 := ak_ A110
        clear A110
        by_cases c12 : t318 = true
        ·subst c12
         rw [if_pos rfl] at H
         have H' := ak_ H
         clear H
         have p314 : 0 ≤ (x8_1 : Int) := of_decide_eq_true (by first | (with_reducible assumption) | assumption)
         have q314 : x8_1 < (l0_0.length : Int) := of_decide_eq_true (by first | (with_reducible assumption) | assumption)
         obtain ⟨ad314, e314, hx314_0, hx314_1, hx314_2⟩ := at_T71 HR0_0.out x8_1 p314 q314
         cases e314
         replace hx314_0 := cx_ HB hx314_0
         replace hx314_1 := cx_ HB hx314_1
         replace hx314_2 := cx_ HB hx314_2
         replace p314 := eq_true p314
         replace q314 := eq_true q314
         go_wp2_with (first | ((with_reducible refine gate_dst (N := 4) rfl ?_); refine be_ (N := 4) (cs := #[.int .i64 0, .int .i64 0, .int .i64 0]) (t := 71) ?_; intro gb315 hg w13 hbox hb; have BK315 := ak_ hbox; have GW315 := ak_ ((gs_ hg : w.heap.size ≤ gb315)); have GE315 := ak_ ((gs_ hg : w.heap.size ≤ gb315)); replace HB := ak_ (below_step hb_ hb); have NB311_315 := ak_ (nl_ hg (bk_ BK311)); have NB315_311 := ak_ (ng_ hg (bk_ BK311)); replace BK311 := ak_ (blk_below (bk_ BK311) hb); clear hb hbox hg; have hnb14 := NB315_311.out; have hnc14 := NB311_315.out; obtain ⟨hcz15_0, hcz15_1, hcz15_2, hfz15_0, hfz15_1, hfz15_2⟩ := bc3_ BK315.out) | ((with_reducible refine gate_callee (f := 28) rfl ?_); refine goesL_ (some 14) rfl rfl Try.func28 (by kernel_rfl) rfl #[.int .i64 ((rd_T71 l0_0 x8_1).f0), .int .i64 0, .int .i64 1] rfl (ma3_ rfl rfl rfl) ?_; (with_reducible refine (impl_in.calls ((rd_T71 l0_0 x8_1).f0) 0 1 true _ A7.out).mono ?_); rintro e w' ⟨rfl, ⟨nd, rfl⟩⟩; refine ⟨_, rfl, ?_⟩) | (go_at_call 28; (with_reducible refine (impl_in.calls ((rd_T71 l0_0 x8_1).f1) 1 1000 true _ A9.out).mono ?_); rintro e w' ⟨rfl, ⟨nd, rfl⟩⟩) | (go_at_call 28; (with_reducible refine (impl_in.calls ((rd_T71 l0_0 x8_1).f2) 1 1000 true _ A11.out).mono ?_); rintro e w' ⟨rfl, ⟨nd, rfl⟩⟩))
         go_roundg k1
         case measure => have := HK1.out; omega
         case rel => exact ⟨(wrap64 (x8_1 + 1)), (by first | rfl | (simp; done) | (simp [*]; done)), H', ⟨by have := HK1.out; omega⟩, ⟨bq_ BK311⟩, ⟨hb_⟩⟩
        ·replace c12 := Bool.eq_false_iff.mpr c12
         subst c12
         rw [if_neg (show ¬ (false = true) by decide)] at H
         obtain rfl := Option.some.inj H
         have p314 : 0 ≤ (x8_1 : Int) := of_decide_eq_true (by first | (with_reducible assumption) | assumption)
         have q314 : x8_1 < (l0_0.length : Int) := of_decide_eq_true (by first | (with_reducible assumption) | assumption)
         obtain ⟨ad314, e314, hx314_0, hx314_1, hx314_2⟩ := at_T71 HR0_0.out x8_1 p314 q314
         cases e314
         replace hx314_0 := cx_ HB hx314_0
         replace hx314_1 := cx_ HB hx314_1
         replace hx314_2 := cx_ HB hx314_2
         replace p314 := eq_true p314
         replace q314 := eq_true q314
         go_wp2_with (first | ((with_reducible refine gate_dst (N := 4) rfl ?_); refine be_ (N := 4) (cs := #[.int .i64 0, .int .i64 0, .int .i64 0]) (t := 71) ?_; intro gb315 hg w16 hbox hb; have BK315 := ak_ hbox; have GW315 := ak_ ((gs_ hg : w.heap.size ≤ gb315)); have GE315 := ak_ ((gs_ hg : w.heap.size ≤ gb315)); replace HB := ak_ (below_step hb_ hb); have NB311_315 := ak_ (nl_ hg (bk_ BK311)); have NB315_311 := ak_ (ng_ hg (bk_ BK311)); replace BK311 := ak_ (blk_below (bk_ BK311) hb); clear hb hbox hg; have hnb17 := NB315_311.out; have hnc17 := NB311_315.out; obtain ⟨hcz18_0, hcz18_1, hcz18_2, hfz18_0, hfz18_1, hfz18_2⟩ := bc3_ BK315.out) | ((with_reducible refine gate_callee (f := 28) rfl ?_); refine goesL_ (some 14) rfl rfl Try.func28 (by kernel_rfl) rfl #[.int .i64 ((rd_T71 l0_0 x8_1).f0), .int .i64 0, .int .i64 1] rfl (ma3_ rfl rfl rfl) ?_; (with_reducible refine (impl_in.calls ((rd_T71 l0_0 x8_1).f0) 0 1 true _ A7.out).mono ?_); rintro e w' ⟨rfl, ⟨nd, rfl⟩⟩; refine ⟨_, rfl, ?_⟩) | (go_at_call 28; (with_reducible refine (impl_in.calls ((rd_T71 l0_0 x8_1).f1) 1 1000 true _ A9.out).mono ?_); rintro e w' ⟨rfl, ⟨nd, rfl⟩⟩) | (go_at_call 28; (with_reducible refine (impl_in.calls ((rd_T71 l0_0 x8_1).f2) 1 1000 false _ A11.out).mono ?_); rintro e w' ⟨rfl, ⟨nd, rfl⟩⟩))
         go_ret
         exact ⟨ew_, hb_⟩
       ·replace c10 := Bool.eq_false_iff.mpr c10
        subst c10
        rw [if_neg (show ¬ (false = true) by decide)] at H
        obtain rfl := Option.some.inj H
        have p314 : 0 ≤ (x8_1 : Int) := of_decide_eq_true (by first | (with_reducible assumption) | assumption)
        have q314 : x8_1 < (l0_0.length : Int) := of_decide_eq_true (by first | (with_reducible assumption) | assumption)
        obtain ⟨ad314, e314, hx314_0, hx314_1, hx314_2⟩ := at_T71 HR0_0.out x8_1 p314 q314
        cases e314
        replace hx314_0 := cx_ HB hx314_0
        replace hx314_1 := cx_ HB hx314_1
        replace hx314_2 := cx_ HB hx314_2
        replace p314 := eq_true p314
        replace q314 := eq_true q314
        go_wp2_with (first | ((with_reducible refine gate_dst (N := 4) rfl ?_); refine be_ (N := 4) (cs := #[.int .i64 0, .int .i64 0, .int .i64 0]) (t := 71) ?_; intro gb315 hg w19 hbox hb; have BK315 := ak_ hbox; have GW315 := ak_ ((gs_ hg : w.heap.size ≤ gb315)); have GE315 := ak_ ((gs_ hg : w.heap.size ≤ gb315)); replace HB := ak_ (below_step hb_ hb); have NB311_315 := ak_ (nl_ hg (bk_ BK311)); have NB315_311 := ak_ (ng_ hg (bk_ BK311)); replace BK311 := ak_ (blk_below (bk_ BK311) hb); clear hb hbox hg; have hnb20 := NB315_311.out; have hnc20 := NB311_315.out; obtain ⟨hcz21_0, hcz21_1, hcz21_2, hfz21_0, hfz21_1, hfz21_2⟩ := bc3_ BK315.out) | ((with_reducible refine gate_callee (f := 28) rfl ?_); refine goesL_ (some 14) rfl rfl Try.func28 (by kernel_rfl) rfl #[.int .i64 ((rd_T71 l0_0 x8_1).f0), .int .i64 0, .int .i64 1] rfl (ma3_ rfl rfl rfl) ?_; (with_reducible refine (impl_in.calls ((rd_T71 l0_0 x8_1).f0) 0 1 true _ A7.out).mono ?_); rintro e w' ⟨rfl, ⟨nd, rfl⟩⟩; refine ⟨_, rfl, ?_⟩) | (go_at_call 28; (with_reducible refine (impl_in.calls ((rd_T71 l0_0 x8_1).f1) 1 1000 false _ A9.out).mono ?_); rintro e w' ⟨rfl, ⟨nd, rfl⟩⟩))
        go_ret
        exact ⟨ew_, hb_⟩
      ·replace c8 := Bool.eq_false_iff.mpr c8
       subst c8
       rw [if_neg (show ¬ (false = true) by decide)] at H
       obtain rfl := Option.some.inj H
       have p314 : 0 ≤ (x8_1 : Int) := of_decide_eq_true (by first | (with_reducible assumption) | assumption)
       have q314 : x8_1 < (l0_0.length : Int) := of_decide_eq_true (by first | (with_reducible assumption) | assumption)
       obtain ⟨ad314, e314, hx314_0, hx314_1, hx314_2⟩ := at_T71 HR0_0.out x8_1 p314 q314
       cases e314
       replace hx314_0 := cx_ HB hx314_0
       replace hx314_1 := cx_ HB hx314_1
       replace hx314_2 := cx_ HB hx314_2
       replace p314 := eq_true p314
       replace q314 := eq_true q314
       go_wp2_with (first | ((with_reducible refine gate_dst (N := 4) rfl ?_); refine be_ (N := 4) (cs := #[.int .i64 0, .int .i64 0, .int .i64 0]) (t := 71) ?_; intro gb315 hg w22 hbox hb; have BK315 := ak_ hbox; have GW315 := ak_ ((gs_ hg : w.heap.size ≤ gb315)); have GE315 := ak_ ((gs_ hg : w.heap.size ≤ gb315)); replace HB := ak_ (below_step hb_ hb); have NB311_315 := ak_ (nl_ hg (bk_ BK311)); have NB315_311 := ak_ (ng_ hg (bk_ BK311)); replace BK311 := ak_ (blk_below (bk_ BK311) hb); clear hb hbox hg; have hnb23 := NB315_311.out; have hnc23 := NB311_315.out; obtain ⟨hcz24_0, hcz24_1, hcz24_2, hfz24_0, hfz24_1, hfz24_2⟩ := bc3_ BK315.out) | ((with_reducible refine gate_callee (f := 28) rfl ?_); refine goesL_ (some 14) rfl rfl Try.func28 (by kernel_rfl) rfl #[.int .i64 ((rd_T71 l0_0 x8_1).f0), .int .i64 0, .int .i64 1] rfl (ma3_ rfl rfl rfl) ?_; (with_reducible refine (impl_in.calls ((rd_T71 l0_0 x8_1).f0) 0 1 false _ A7.out).mono ?_); rintro e w' ⟨rfl, ⟨nd, rfl⟩⟩; refine ⟨_, rfl, ?_⟩))
       go_ret
       exact ⟨ew_, hb_⟩
     ·rw [if_neg c6] at H
      exact absurd H (by simp)
    ·rw [if_neg c5] at H
     exact absurd H (by simp)
   ·rw [if_neg c4] at H
    have c4b0 : decide (x8_1 < (l0_0.length : Int)) = false := decide_eq_false c4
    clear c4
    by_cases c25 : (l0_0.length : Int) ≤ 3
    ·rw [if_pos c25] at H
     have c25b0 : decide ((l0_0.length : Int) ≤ 3) = true := decide_eq_true c25
     have c25b1 : decide (l0_0.length ≤ 3) = true := decide_eq_true (by omega)
     clear c25
     replace H := Option.bind_eq_some_iff.mp H
     obtain ⟨t312, A260, H⟩ := H
     replace H : (if t312 = true then ((impl_in.f a0_2 0 1000).bind fun t313 => (some t313)) else (some false)) = some r := H
     have A26 := ak_ A260
     clear A260
     by_cases c27 : t312 = true
     ·subst c27
      rw [if_pos rfl] at H
      replace H := Option.bind_eq_some_iff.mp H
      obtain ⟨t313, A280, H⟩ := H
      replace H : (some t313) = some r := H
      have A28 := ak_ A280
      clear A280
      obtain rfl := Option.some.inj H
      obtain ⟨hcz29_0, hcz29_1, hcz29_2, hfz29_0, hfz29_1, hfz29_2⟩ := bc3_ BK311.out
      go_wp2_with (first | (go_at_call 28; (with_reducible refine (impl_in.calls a0_1 0 2 true _ A26.out).mono ?_); rintro e w' ⟨rfl, ⟨nd, rfl⟩⟩) | (go_at_call 28; (with_reducible refine (impl_in.calls a0_2 0 1000 t313 _ A28.out).mono ?_); rintro e w' ⟨rfl, ⟨nd, rfl⟩⟩))
      go_ret
      exact ⟨ew_, hb_⟩
     ·replace c27 := Bool.eq_false_iff.mpr c27
      subst c27
      rw [if_neg (show ¬ (false = true) by decide)] at H
      obtain rfl := Option.some.inj H
      obtain ⟨hcz30_0, hcz30_1, hcz30_2, hfz30_0, hfz30_1, hfz30_2⟩ := bc3_ BK311.out
      go_wp2_with (first | (go_at_call 28; (with_reducible refine (impl_in.calls a0_1 0 2 false _ A26.out).mono ?_); rintro e w' ⟨rfl, ⟨nd, rfl⟩⟩))
      go_ret
      exact ⟨ew_, hb_⟩
    ·rw [if_neg c25] at H
     have c25b0 : decide ((l0_0.length : Int) ≤ 3) = false := decide_eq_false c25
     have c25b1 : decide (l0_0.length ≤ 3) = false := decide_eq_false (by omega)
     clear c25
     obtain rfl := Option.some.inj H
     obtain ⟨hcz31_0, hcz31_1, hcz31_2, hfz31_0, hfz31_1, hfz31_2⟩ := bc3_ BK311.out
     go_wp2
     go_ret
     exact ⟨ew_, hb_⟩

end Go.Proofs.Ytblfoelddakelaa.H
