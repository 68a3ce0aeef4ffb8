-- PRINTED by print.py (a twelfth state) out of the translation. Not trusted: Lean checks it.
import Derived.Test.YtblfoelddakelaaDoorU0
import Derived.Test.YtblfoelddakelaaDoorU8
import Derived.Test.YtblfoelddakelaaDoorU25
import Derived.Test.YtblfoelddakelaaDoorU26
namespace Go.Proofs.YtblfoelddakelaaDoor.U
open Go.RowKit Go.Proofs.YtblfoelddakelaaDoorW.PrintWords Go.Proofs.YtblfoelddakelaaDoorW.PrintLast Go.Proofs.YtblfoelddakelaaDoorW.PrintMore
attribute [local go_sem] max2_int min2_int max_two min_two max_three min_three max_four min_four   -- for this text's walks alone
set_option linter.unusedVariables false
set_option linter.unusedSimpArgs false

/-! ### impl_SetupOk: function 39 -/
def impl_SetupOk.l0 : Nat → List (S75) → Int → Int → Int → Int → Int → List (S75) → List (S67) → Int → Int → List (S67) → Int → Int → Int → Int → Option (Bool)
  | 0, _, _, _, _, _, _, _, _, _, _, _, _, _, _, _ => none
  | k + 1, x6, x7, x8, x352000, x352001, x352002, x352003, x352004, x352005, x352006, x352007, x352008, x352009, x352010, x352011 => if x8 < x7 then (if 0 ≤ x8 then (if x8 < (x6.length : Int) then ((impl_GoalOk.f k ((rd_T75 x6 x8).f0) ((rd_T75 x6 x8).f1) ((rd_T75 x6 x8).f2)).bind fun t357 => (if t357 = true then (if x8 ≤ (x352003.length : Int) then ((impl_hasMetric.f (x352003.take (x8 : Int).toNat) ((rd_T75 x6 x8).f0) ((rd_T75 x6 x8).f1) ((rd_T75 x6 x8).f2)).bind fun t362 => (if t362 = true then (some false) else (impl_SetupOk.l0 k x6 x7 (wrap64 (x8 + 1)) x352000 x352001 x352002 x352003 x352004 x352005 x352006 x352007 x352008 x352009 x352010 x352011))) else (none)) else (some false))) else (none)) else (none)) else ((impl_RulesOk.f x352000 x352001 x352002).bind fun t352 => (if t352 = true then ((impl_BehaveOk.f k x352004 x352005 x352006 x352007 x352008 x352009 x352010 x352011).bind fun t353 => (if t353 = true then ((impl_in.f (x352003.length : Int) 1 3).bind fun t354 => (some t354)) else (some false))) else (some false)))
def impl_SetupOk.f (k : Nat) (a0_0 : Int) (a0_1 : Int) (a0_2 : Int) (l0_3 : List (S75)) (l0_4 : List (S67)) (a0_5 : Int) (a0_6 : Int) (l0_7 : List (S67)) (a0_8 : Int) (a0_9 : Int) (a0_10 : Int) (a0_11 : Int) : Option (Bool) := impl_SetupOk.l0 k l0_3 (l0_3.length : Int) 0 a0_0 a0_1 a0_2 l0_3 l0_4 a0_5 a0_6 l0_7 a0_8 a0_9 a0_10 a0_11
theorem impl_SetupOk.mono_l : ∀ k, (∀ y0 y1 y2 y3 y4 y5 y6 y7 y8 y9 y10 y11 y12 y13 y14, LeO (impl_SetupOk.l0 k y0 y1 y2 y3 y4 y5 y6 y7 y8 y9 y10 y11 y12 y13 y14) (impl_SetupOk.l0 (k + 1) y0 y1 y2 y3 y4 y5 y6 y7 y8 y9 y10 y11 y12 y13 y14))
  | 0 => fun _ _ _ _ _ _ _ _ _ _ _ _ _ _ _ r h => by simp [impl_SetupOk.l0] at h
  | k + 1 => by
    have ih0 := impl_SetupOk.mono_l k
    · intro y0 y1 y2 y3 y4 y5 y6 y7 y8 y9 y10 y11 y12 y13 y14
      unfold impl_SetupOk.l0
      repeat' with_reducible first | exact ih0 _ _ _ _ _ _ _ _ _ _ _ _ _ _ _ | exact impl_BehaveOk.mono _ _ _ _ _ _ _ _ _ | exact impl_GoalOk.mono _ _ _ _ | exact LeO.refl _ | exact LeO.none _ | refine LeO.ite ?_ ?_ | refine LeO.bind ?_ (fun _ => ?_)
theorem impl_SetupOk.mono : ∀ a0 a1 a2 a3 a4 a5 a6 a7 a8 a9 a10 a11 k, LeO (impl_SetupOk.f k a0 a1 a2 a3 a4 a5 a6 a7 a8 a9 a10 a11) (impl_SetupOk.f (k + 1) a0 a1 a2 a3 a4 a5 a6 a7 a8 a9 a10 a11) := by
  intro a0 a1 a2 a3 a4 a5 a6 a7 a8 a9 a10 a11 k
  have ih0 := impl_SetupOk.mono_l k
  unfold impl_SetupOk.f
  repeat' with_reducible first | exact ih0 _ _ _ _ _ _ _ _ _ _ _ _ _ _ _ | exact impl_BehaveOk.mono _ _ _ _ _ _ _ _ _ | exact impl_GoalOk.mono _ _ _ _ | exact LeO.refl _ | exact LeO.none _ | refine LeO.ite ?_ ?_ | refine LeO.bind ?_ (fun _ => ?_)
set_option maxHeartbeats 8000000 in
set_option maxRecDepth 100000 in
theorem impl_SetupOk.calls (k : Nat) (a0_0 : Int) (a0_1 : Int) (a0_2 : Int) (A0_3 : Option Addr) (c0_3 : Nat) (l0_3 : List (S75)) (A0_4 : Option Addr) (c0_4 : Nat) (l0_4 : List (S67)) (a0_5 : Int) (a0_6 : Int) (A0_7 : Option Addr) (c0_7 : Nat) (l0_7 : List (S67)) (a0_8 : Int) (a0_9 : Int) (a0_10 : Int) (a0_11 : Int) (r : Bool) (w : World) (hr0_3 : Kd.C k75 w A0_3 l0_3.length l0_3) (hc0_3 : l0_3.length ≤ c0_3) (hr0_4 : Kd.C k67 w A0_4 l0_4.length l0_4) (hc0_4 : l0_4.length ≤ c0_4) (hr0_7 : Kd.C k67 w A0_7 l0_7.length l0_7) (hc0_7 : l0_7.length ≤ c0_7) (h : impl_SetupOk.f k a0_0 a0_1 a0_2 l0_3 l0_4 a0_5 a0_6 l0_7 a0_8 a0_9 a0_10 a0_11 = some r) :
  Calls Tryd.prog 39 #[.agg #[.int .i64 a0_0, .int .i64 a0_1, .int .i64 a0_2, .slice A0_3 l0_3.length c0_3, .slice A0_4 l0_4.length c0_4, .int .i64 a0_5, .int .i64 a0_6, .slice A0_7 l0_7.length c0_7, .int .i64 a0_8, .int .i64 a0_9, .int .i64 a0_10, .int .i64 a0_11]] w fun e w' => e = .returned (.bool r) ∧ Below w.heap.size w w' := by
 have hu54 := Tryd.underlying54
 have hu75 := Tryd.underlying75
 have hu49 := Tryd.underlying49
 have hu52 := Tryd.underlying52
 have HR0_3 := Aside0.mk hr0_3
 have HC0_3 := Aside0.mk hc0_3
 clear hr0_3 hc0_3
 have HR0_4 := Aside0.mk hr0_4
 have HC0_4 := Aside0.mk hc0_4
 clear hr0_4 hc0_4
 have HR0_7 := Aside0.mk hr0_7
 have HC0_7 := Aside0.mk hc0_7
 clear hr0_7 hc0_7
 have HB := Aside0.mk (Below.refl w.heap.size w)
 have H : (impl_SetupOk.l0 k l0_3 (l0_3.length : Int) 0 a0_0 a0_1 a0_2 l0_3 l0_4 a0_5 a0_6 l0_7 a0_8 a0_9 a0_10 a0_11) = some r := h
 clear h
 have H' := Aside0.mk H
 clear H
 go_enter Tryd.func39, Tryd.ntmps39
 go_wp2_with (first | ((with_reducible refine gate_dst (N := 1) rfl ?_); refine be_ (N := 1) (cs := #[.int .i64 a0_0, .int .i64 a0_1, .int .i64 a0_2, .slice A0_3 l0_3.length c0_3, .slice A0_4 l0_4.length c0_4, .int .i64 a0_5, .int .i64 a0_6, .slice A0_7 l0_7.length c0_7, .int .i64 a0_8, .int .i64 a0_9, .int .i64 a0_10, .int .i64 a0_11]) (t := 54) ?_; intro gb351 hg w2 hbox hb; have BK351 := ak_ hbox; have GW351 := ak_ ((gs_ hg : w.heap.size ≤ gb351)); have GE351 := ak_ ((gs_ hg : w.heap.size ≤ gb351)); replace HB := ak_ (below_step hb_ hb); clear hb hbox hg; obtain ⟨hcz3_0, hcz3_1, hcz3_2, hcz3_3, hcz3_4, hcz3_5, hcz3_6, hcz3_7, hcz3_8, hcz3_9, hcz3_10, hcz3_11, hfz3_0, hfz3_1, hfz3_2, hfz3_3, hfz3_4, hfz3_5, hfz3_6, hfz3_7, hfz3_8, hfz3_9, hfz3_10, hfz3_11⟩ := bc12_ BK351.out))
 go_loopg [8] k (fun kq v8 w' => ∃ (x8_1 : Int), v8 = .int .i64 x8_1 ∧ Aside0 (impl_SetupOk.l0 kq l0_3 (l0_3.length : Int) x8_1 a0_0 a0_1 a0_2 l0_3 l0_4 a0_5 a0_6 l0_7 a0_8 a0_9 a0_10 a0_11 = some r) ∧ Aside0 (kq ≤ k) ∧ Aside0 (w'.heap[gb351]? = some (.cells #[.int .i64 a0_0, .int .i64 a0_1, .int .i64 a0_2, (.slice A0_3 l0_3.length c0_3), (.slice A0_4 l0_4.length c0_4), .int .i64 a0_5, .int .i64 a0_6, (.slice A0_7 l0_7.length c0_7), .int .i64 a0_8, .int .i64 a0_9, .int .i64 a0_10, .int .i64 a0_11] 54 (0, 0))) ∧ Aside0 (Below w.heap.size w w'))
 case atStart => exact ⟨(0), (by first | rfl | (simp; done) | (simp [*]; done)), H', ⟨Nat.le_refl _⟩, ⟨by (with_reducible repeat (first | refine blk_drewN ?_ _ | refine blk_drew ?_ | refine blk_alloc ?_ _)); exact BK351.out⟩, ⟨hb_⟩⟩
 case round =>
  clear H'
  try clear p2
  try clear c3
  try clear hcz3_0
  try clear hcz3_1
  try clear hcz3_10
  try clear hcz3_11
  try clear hcz3_2
  try clear hcz3_3
  try clear hcz3_4
  try clear hcz3_5
  try clear hcz3_6
  try clear hcz3_7
  try clear hcz3_8
  try clear hcz3_9
  try clear hfz3_0
  try clear hfz3_1
  try clear hfz3_10
  try clear hfz3_11
  try clear hfz3_2
  try clear hfz3_3
  try clear hfz3_4
  try clear hfz3_5
  try clear hfz3_6
  try clear hfz3_7
  try clear hfz3_8
  try clear hfz3_9
  obtain ⟨x8_1, rfl, HA, HK1, BK351, HB⟩ := hrel
  cases gk with
  | zero => exact absurd HA.out (by simp [impl_SetupOk.l0])
  | succ k1 =>
   have H := HA.out
   clear HA
   simp only [impl_SetupOk.l0] at H
   by_cases c4 : x8_1 < (l0_3.length : Int)
   ·rw [if_pos c4] at H
    have c4b0 : decide (x8_1 < (l0_3.length : Int)) = true := decide_eq_true c4
    clear c4
    by_cases c5 : 0 ≤ x8_1
    ·rw [if_pos c5] at H
     have c5b0 : decide (0 ≤ x8_1) = true := decide_eq_true c5
     clear c5
     by_cases c6 : x8_1 < (l0_3.length : Int)
     ·rw [if_pos c6] at H
      have c6b0 : decide (x8_1 < (l0_3.length : Int)) = true := decide_eq_true c6
      clear c6
      replace H := Option.bind_eq_some_iff.mp H
      obtain ⟨t357, A70, H⟩ := H
      replace H : (if t357 = true then (if x8_1 ≤ (l0_3.length : Int) then ((impl_hasMetric.f (l0_3.take (x8_1 : Int).toNat) ((rd_T75 l0_3 x8_1).f0) ((rd_T75 l0_3 x8_1).f1) ((rd_T75 l0_3 x8_1).f2)).bind fun t362 => (if t362 = true then (some false) else (impl_SetupOk.l0 k1 l0_3 (l0_3.length : Int) (wrap64 (x8_1 + 1)) a0_0 a0_1 a0_2 l0_3 l0_4 a0_5 a0_6 l0_7 a0_8 a0_9 a0_10 a0_11))) else (none)) else (some false)) = some r := H
      have A7 := Aside0.mk A70
      clear A70
      by_cases c8 : t357 = true
      ·subst c8
       rw [if_pos rfl] at H
       have c9b0 := eq_true (of_decide_eq_true (by first | (with_reducible assumption) | assumption) : 0 ≤ x8_1)
       by_cases c10 : x8_1 ≤ (l0_3.length : Int)
       ·rw [if_pos c10] at H
        have c10b0 := eq_true c10
        have c10b1 : decide (x8_1 ≤ (l0_3.length : Int)) = true := decide_eq_true c10
        clear c10
        obtain ⟨y358, hy358⟩ : ∃ y_ : List (S75), y_ = (l0_3.take (x8_1 : Int).toNat) := ⟨_, rfl⟩
        replace H : ((impl_hasMetric.f y358 ((rd_T75 l0_3 x8_1).f0) ((rd_T75 l0_3 x8_1).f1) ((rd_T75 l0_3 x8_1).f2)).bind fun t362 => (if t362 = true then (some false) else (impl_SetupOk.l0 k1 l0_3 (l0_3.length : Int) (wrap64 (x8_1 + 1)) a0_0 a0_1 a0_2 l0_3 l0_4 a0_5 a0_6 l0_7 a0_8 a0_9 a0_10 a0_11))) = some r := by first | (rw [hy358]; with_reducible exact H) | (have H2_ := (Option.bind_some _ _).symm.trans H; rw [hy358]; with_reducible exact H2_) | (have H2_ := (Option.bind_some _ _).symm.trans H; with_reducible exact H2_) | with_reducible exact H | (rw [hy358]; exact H) | exact H
        have Ny358 := Aside0.mk hy358
        clear hy358
        replace H := Option.bind_eq_some_iff.mp H
        obtain ⟨t362, A110, H⟩ := H
        replace H : (if t362 = true then (some false) else (impl_SetupOk.l0 k1 l0_3 (l0_3.length : Int) (wrap64 (x8_1 + 1)) a0_0 a0_1 a0_2 l0_3 l0_4 a0_5 a0_6 l0_7 a0_8 a0_9 a0_10 a0_11)) = some r := H
        have A11 := Aside0.mk A110
        clear A110
        by_cases c12 : t362 = true
        ·subst c12
         rw [if_pos rfl] at H
         obtain rfl := Option.some.inj H
         have p355 : 0 ≤ (x8_1 : Int) := of_decide_eq_true (by first | (with_reducible assumption) | assumption)
         have q355 : x8_1 < (l0_3.length : Int) := of_decide_eq_true (by first | (with_reducible assumption) | assumption)
         obtain ⟨ad355, e355, hx355_0, hx355_1, hx355_2⟩ := at_T75 HR0_3.out x8_1 p355 q355
         cases e355
         replace hx355_0 := cx_ HB hx355_0
         replace hx355_1 := cx_ HB hx355_1
         replace hx355_2 := cx_ HB hx355_2
         replace p355 := eq_true p355
         replace q355 := eq_true q355
         go_wp2_with (first | ((with_reducible refine gate_dst (N := 4) rfl ?_); refine be_ (N := 4) (cs := #[.string (⟨#[]⟩ : ByteArray), .int .i64 0, .int .i64 0]) (t := 75) ?_; intro gb356 hg w13 hbox hb; have BK356 := ak_ hbox; have GW356 := ak_ ((gs_ hg : w.heap.size ≤ gb356)); have GE356 := ak_ ((gs_ hg : w.heap.size ≤ gb356)); replace HB := ak_ (below_step hb_ hb); have NB351_356 := ak_ (nl_ hg (bk_ BK351)); have NB356_351 := ak_ (ng_ hg (bk_ BK351)); replace BK351 := ak_ (blk_below (bk_ BK351) hb); clear hb hbox hg; have hnb14 := NB356_351.out; have hnc14 := NB351_356.out; obtain ⟨hcz15_0, hcz15_1, hcz15_2, hfz15_0, hfz15_1, hfz15_2⟩ := bc3_ BK356.out) | ((with_reducible refine gate_callee (f := 62) rfl ?_); refine goesL_ (some 14) rfl rfl Tryd.func62 (by kernel_rfl) rfl #[.agg #[.string ((rd_T75 l0_3 x8_1).f0), .int .i64 ((rd_T75 l0_3 x8_1).f1), .int .i64 ((rd_T75 l0_3 x8_1).f2)]] rfl (ma1_ rfl) ?_; (with_reducible refine (impl_GoalOk.calls k1 ((rd_T75 l0_3 x8_1).f0) ((rd_T75 l0_3 x8_1).f1) ((rd_T75 l0_3 x8_1).f2) true _ A7.out).mono ?_); rintro e w16 ⟨rfl, hb⟩; refine ⟨_, rfl, ?_⟩; replace BK351 := ak_ (blk_below (bk_ BK351) hb); replace BK356 := ak_ (blk_below (g := gb356) (o := .cells #[.string ((rd_T75 l0_3 x8_1).f0), .int .i64 ((rd_T75 l0_3 x8_1).f1), .int .i64 ((rd_T75 l0_3 x8_1).f2)] 75 (0, 0)) (by (with_reducible repeat (first | refine blk_drewN ?_ _ | refine blk_drew ?_ | refine blk_alloc ?_ _)); refine blk_put (cs := #[.string ((rd_T75 l0_3 x8_1).f0), .int .i64 ((rd_T75 l0_3 x8_1).f1), .int .i64 0]) ?_ 2 _ rfl; (with_reducible repeat (first | refine blk_drewN ?_ _ | refine blk_drew ?_ | refine blk_alloc ?_ _)); refine blk_put (cs := #[.string ((rd_T75 l0_3 x8_1).f0), .int .i64 0, .int .i64 0]) ?_ 1 _ rfl; (with_reducible repeat (first | refine blk_drewN ?_ _ | refine blk_drew ?_ | refine blk_alloc ?_ _)); refine blk_put (cs := #[.string (⟨#[]⟩ : ByteArray), .int .i64 0, .int .i64 0]) ?_ 0 _ rfl; (with_reducible repeat (first | refine blk_drewN ?_ _ | refine blk_drew ?_ | refine blk_alloc ?_ _)); exact BK356.out) hb); replace HB := ak_ (below_step hb_ hb); (try clear hb); obtain ⟨hcz17_0, hcz17_1, hcz17_2, hcz17_3, hcz17_4, hcz17_5, hcz17_6, hcz17_7, hcz17_8, hcz17_9, hcz17_10, hcz17_11, hfz17_0, hfz17_1, hfz17_2, hfz17_3, hfz17_4, hfz17_5, hfz17_6, hfz17_7, hfz17_8, hfz17_9, hfz17_10, hfz17_11⟩ := bc12_ BK351.out; have q18 : (x8_1 : Int) ≤ ((l0_3.length : Int) : Int) := of_decide_eq_true (by first | (with_reducible assumption) | assumption); obtain ⟨i018, hi018, _, hsz18, _⟩ := info_parts info75; have hroom18 : l0_3.length ≤ c0_3 := HC0_3.out; have hC18 : Kd.C k75 _ (some ad355) l0_3.length l0_3 := HR0_3.out; have hcut18 := cut_to (P := Tryd.prog) 50 75 .i64 Tryd.underlying50 hi018 (some ad355) l0_3.length c0_3 x8_1 (of_decide_eq_true (by first | (with_reducible assumption) | assumption)) q18 hroom18; have hr18 := Kd.C_take (m := (x8_1 : Int).toNat) hC18 (by omega); have hy18 : y358.length = (x8_1 : Int).toNat := (by rw [Ny358.out, List.length_take]; omega); rw [← Ny358.out] at hr18; rw [← hy18] at hcut18; have HR361 := Aside0.mk hr18; have HC361 := Aside0.mk (show y358.length ≤ c0_3 from by omega); clear hr18 hC18 hroom18 hi018 hsz18; have KY18 := Aside0.mk hy18; clear hy18; replace q18 := eq_true q18) | (go_at_call 63; (with_reducible refine (impl_hasMetric.calls _ _ y358 ((rd_T75 l0_3 x8_1).f0) ((rd_T75 l0_3 x8_1).f1) ((rd_T75 l0_3 x8_1).f2) true _ _ ?side1 ?side2 ?sideG A11.out).mono ?_); (case sideG => (with_reducible repeat (first | refine blk_drewN ?_ _ | refine blk_drew ?_ | refine blk_alloc ?_ _)); exact BK356.out); (case side1 => exact kc_ HR361); (case side2 => exact HC361.out); rintro e w19 ⟨rfl, hb⟩; replace BK351 := ak_ (blk_below (bk_ BK351) hb); replace BK356 := ak_ (blk_below (bk_ BK356) hb); replace HB := ak_ (below_step hb_ hb); (try clear hb)))
         go_ret
         exact ⟨ew_, hb_⟩
        ·replace c12 := Bool.eq_false_iff.mpr c12
         subst c12
         rw [if_neg (show ¬ (false = true) by decide)] at H
         have H' := Aside0.mk H
         clear H
         have p355 : 0 ≤ (x8_1 : Int) := of_decide_eq_true (by first | (with_reducible assumption) | assumption)
         have q355 : x8_1 < (l0_3.length : Int) := of_decide_eq_true (by first | (with_reducible assumption) | assumption)
         obtain ⟨ad355, e355, hx355_0, hx355_1, hx355_2⟩ := at_T75 HR0_3.out x8_1 p355 q355
         cases e355
         replace hx355_0 := cx_ HB hx355_0
         replace hx355_1 := cx_ HB hx355_1
         replace hx355_2 := cx_ HB hx355_2
         replace p355 := eq_true p355
         replace q355 := eq_true q355
         go_wp2_with (first | ((with_reducible refine gate_dst (N := 4) rfl ?_); refine be_ (N := 4) (cs := #[.string (⟨#[]⟩ : ByteArray), .int .i64 0, .int .i64 0]) (t := 75) ?_; intro gb356 hg w20 hbox hb; have BK356 := ak_ hbox; have GW356 := ak_ ((gs_ hg : w.heap.size ≤ gb356)); have GE356 := ak_ ((gs_ hg : w.heap.size ≤ gb356)); replace HB := ak_ (below_step hb_ hb); have NB351_356 := ak_ (nl_ hg (bk_ BK351)); have NB356_351 := ak_ (ng_ hg (bk_ BK351)); replace BK351 := ak_ (blk_below (bk_ BK351) hb); clear hb hbox hg; have hnb21 := NB356_351.out; have hnc21 := NB351_356.out; obtain ⟨hcz22_0, hcz22_1, hcz22_2, hfz22_0, hfz22_1, hfz22_2⟩ := bc3_ BK356.out) | ((with_reducible refine gate_callee (f := 62) rfl ?_); refine goesL_ (some 14) rfl rfl Tryd.func62 (by kernel_rfl) rfl #[.agg #[.string ((rd_T75 l0_3 x8_1).f0), .int .i64 ((rd_T75 l0_3 x8_1).f1), .int .i64 ((rd_T75 l0_3 x8_1).f2)]] rfl (ma1_ rfl) ?_; (with_reducible refine (impl_GoalOk.calls k1 ((rd_T75 l0_3 x8_1).f0) ((rd_T75 l0_3 x8_1).f1) ((rd_T75 l0_3 x8_1).f2) true _ A7.out).mono ?_); rintro e w23 ⟨rfl, hb⟩; refine ⟨_, rfl, ?_⟩; replace BK351 := ak_ (blk_below (bk_ BK351) hb); replace BK356 := ak_ (blk_below (g := gb356) (o := .cells #[.string ((rd_T75 l0_3 x8_1).f0), .int .i64 ((rd_T75 l0_3 x8_1).f1), .int .i64 ((rd_T75 l0_3 x8_1).f2)] 75 (0, 0)) (by (with_reducible repeat (first | refine blk_drewN ?_ _ | refine blk_drew ?_ | refine blk_alloc ?_ _)); refine blk_put (cs := #[.string ((rd_T75 l0_3 x8_1).f0), .int .i64 ((rd_T75 l0_3 x8_1).f1), .int .i64 0]) ?_ 2 _ rfl; (with_reducible repeat (first | refine blk_drewN ?_ _ | refine blk_drew ?_ | refine blk_alloc ?_ _)); refine blk_put (cs := #[.string ((rd_T75 l0_3 x8_1).f0), .int .i64 0, .int .i64 0]) ?_ 1 _ rfl; (with_reducible repeat (first | refine blk_drewN ?_ _ | refine blk_drew ?_ | refine blk_alloc ?_ _)); refine blk_put (cs := #[.string (⟨#[]⟩ : ByteArray), .int .i64 0, .int .i64 0]) ?_ 0 _ rfl; (with_reducible repeat (first | refine blk_drewN ?_ _ | refine blk_drew ?_ | refine blk_alloc ?_ _)); exact BK356.out) hb); replace HB := ak_ (below_step hb_ hb); (try clear hb); obtain ⟨hcz24_0, hcz24_1, hcz24_2, hcz24_3, hcz24_4, hcz24_5, hcz24_6, hcz24_7, hcz24_8, hcz24_9, hcz24_10, hcz24_11, hfz24_0, hfz24_1, hfz24_2, hfz24_3, hfz24_4, hfz24_5, hfz24_6, hfz24_7, hfz24_8, hfz24_9, hfz24_10, hfz24_11⟩ := bc12_ BK351.out; have q25 : (x8_1 : Int) ≤ ((l0_3.length : Int) : Int) := of_decide_eq_true (by first | (with_reducible assumption) | assumption); obtain ⟨i025, hi025, _, hsz25, _⟩ := info_parts info75; have hroom25 : l0_3.length ≤ c0_3 := HC0_3.out; have hC25 : Kd.C k75 _ (some ad355) l0_3.length l0_3 := HR0_3.out; have hcut25 := cut_to (P := Tryd.prog) 50 75 .i64 Tryd.underlying50 hi025 (some ad355) l0_3.length c0_3 x8_1 (of_decide_eq_true (by first | (with_reducible assumption) | assumption)) q25 hroom25; have hr25 := Kd.C_take (m := (x8_1 : Int).toNat) hC25 (by omega); have hy25 : y358.length = (x8_1 : Int).toNat := (by rw [Ny358.out, List.length_take]; omega); rw [← Ny358.out] at hr25; rw [← hy25] at hcut25; have HR361 := Aside0.mk hr25; have HC361 := Aside0.mk (show y358.length ≤ c0_3 from by omega); clear hr25 hC25 hroom25 hi025 hsz25; have KY25 := Aside0.mk hy25; clear hy25; replace q25 := eq_true q25) | (go_at_call 63; (with_reducible refine (impl_hasMetric.calls _ _ y358 ((rd_T75 l0_3 x8_1).f0) ((rd_T75 l0_3 x8_1).f1) ((rd_T75 l0_3 x8_1).f2) false _ _ ?side1 ?side2 ?sideG A11.out).mono ?_); (case sideG => (with_reducible repeat (first | refine blk_drewN ?_ _ | refine blk_drew ?_ | refine blk_alloc ?_ _)); exact BK356.out); (case side1 => exact kc_ HR361); (case side2 => exact HC361.out); rintro e w26 ⟨rfl, hb⟩; replace BK351 := ak_ (blk_below (bk_ BK351) hb); replace BK356 := ak_ (blk_below (bk_ BK356) hb); replace HB := ak_ (below_step hb_ hb); (try clear hb)))
         go_roundg k1
         case measure => have := HK1.out; omega
         case rel => exact ⟨(wrap64 (x8_1 + 1)), (by first | rfl | (simp; done) | (simp [*]; done)), H', ⟨by have := HK1.out; omega⟩, ⟨by (with_reducible repeat (first | refine blk_drewN ?_ _ | refine blk_drew ?_ | refine blk_alloc ?_ _)); exact BK351.out⟩, ⟨hb_⟩⟩
       ·rw [if_neg c10] at H
        exact absurd H (by simp)
      ·replace c8 := Bool.eq_false_iff.mpr c8
       subst c8
       rw [if_neg (show ¬ (false = true) by decide)] at H
       obtain rfl := Option.some.inj H
       have p355 : 0 ≤ (x8_1 : Int) := of_decide_eq_true (by first | (with_reducible assumption) | assumption)
       have q355 : x8_1 < (l0_3.length : Int) := of_decide_eq_true (by first | (with_reducible assumption) | assumption)
       obtain ⟨ad355, e355, hx355_0, hx355_1, hx355_2⟩ := at_T75 HR0_3.out x8_1 p355 q355
       cases e355
       replace hx355_0 := cx_ HB hx355_0
       replace hx355_1 := cx_ HB hx355_1
       replace hx355_2 := cx_ HB hx355_2
       replace p355 := eq_true p355
       replace q355 := eq_true q355
       go_wp2_with (first | ((with_reducible refine gate_dst (N := 4) rfl ?_); refine be_ (N := 4) (cs := #[.string (⟨#[]⟩ : ByteArray), .int .i64 0, .int .i64 0]) (t := 75) ?_; intro gb356 hg w27 hbox hb; have BK356 := ak_ hbox; have GW356 := ak_ ((gs_ hg : w.heap.size ≤ gb356)); have GE356 := ak_ ((gs_ hg : w.heap.size ≤ gb356)); replace HB := ak_ (below_step hb_ hb); have NB351_356 := ak_ (nl_ hg (bk_ BK351)); have NB356_351 := ak_ (ng_ hg (bk_ BK351)); replace BK351 := ak_ (blk_below (bk_ BK351) hb); clear hb hbox hg; have hnb28 := NB356_351.out; have hnc28 := NB351_356.out; obtain ⟨hcz29_0, hcz29_1, hcz29_2, hfz29_0, hfz29_1, hfz29_2⟩ := bc3_ BK356.out) | ((with_reducible refine gate_callee (f := 62) rfl ?_); refine goesL_ (some 14) rfl rfl Tryd.func62 (by kernel_rfl) rfl #[.agg #[.string ((rd_T75 l0_3 x8_1).f0), .int .i64 ((rd_T75 l0_3 x8_1).f1), .int .i64 ((rd_T75 l0_3 x8_1).f2)]] rfl (ma1_ rfl) ?_; (with_reducible refine (impl_GoalOk.calls k1 ((rd_T75 l0_3 x8_1).f0) ((rd_T75 l0_3 x8_1).f1) ((rd_T75 l0_3 x8_1).f2) false _ A7.out).mono ?_); rintro e w30 ⟨rfl, hb⟩; refine ⟨_, rfl, ?_⟩; replace BK351 := ak_ (blk_below (bk_ BK351) hb); replace BK356 := ak_ (blk_below (g := gb356) (o := .cells #[.string ((rd_T75 l0_3 x8_1).f0), .int .i64 ((rd_T75 l0_3 x8_1).f1), .int .i64 ((rd_T75 l0_3 x8_1).f2)] 75 (0, 0)) (by (with_reducible repeat (first | refine blk_drewN ?_ _ | refine blk_drew ?_ | refine blk_alloc ?_ _)); refine blk_put (cs := #[.string ((rd_T75 l0_3 x8_1).f0), .int .i64 ((rd_T75 l0_3 x8_1).f1), .int .i64 0]) ?_ 2 _ rfl; (with_reducible repeat (first | refine blk_drewN ?_ _ | refine blk_drew ?_ | refine blk_alloc ?_ _)); refine blk_put (cs := #[.string ((rd_T75 l0_3 x8_1).f0), .int .i64 0, .int .i64 0]) ?_ 1 _ rfl; (with_reducible repeat (first | refine blk_drewN ?_ _ | refine blk_drew ?_ | refine blk_alloc ?_ _)); refine blk_put (cs := #[.string (⟨#[]⟩ : ByteArray), .int .i64 0, .int .i64 0]) ?_ 0 _ rfl; (with_reducible repeat (first | refine blk_drewN ?_ _ | refine blk_drew ?_ | refine blk_alloc ?_ _)); exact BK356.out) hb); replace HB := ak_ (below_step hb_ hb); (try clear hb)))
       go_ret
       exact ⟨ew_, hb_⟩
     ·rw [if_neg c6] at H
      exact absurd H (by simp)
    ·rw [if_neg c5] at H
     exact absurd H (by simp)
   ·rw [if_neg c4] at H
    have c4b0 : decide (x8_1 < (l0_3.length : Int)) = false := decide_eq_false c4
    clear c4
    replace H := Option.bind_eq_some_iff.mp H
    obtain ⟨t352, A310, H⟩ := H
    replace H : (if t352 = true then ((impl_BehaveOk.f k1 l0_4 a0_5 a0_6 l0_7 a0_8 a0_9 a0_10 a0_11).bind fun t353 => (if t353 = true then ((impl_in.f (l0_3.length : Int) 1 3).bind fun t354 => (some t354)) else (some false))) else (some false)) = some r := H
    have A31 := Aside0.mk A310
    clear A310
    by_cases c32 : t352 = true
    ·subst c32
     rw [if_pos rfl] at H
     replace H := Option.bind_eq_some_iff.mp H
     obtain ⟨t353, A330, H⟩ := H
     replace H : (if t353 = true then ((impl_in.f (l0_3.length : Int) 1 3).bind fun t354 => (some t354)) else (some false)) = some r := H
     have A33 := Aside0.mk A330
     clear A330
     by_cases c34 : t353 = true
     ·subst c34
      rw [if_pos rfl] at H
      replace H := Option.bind_eq_some_iff.mp H
      obtain ⟨t354, A350, H⟩ := H
      replace H : (some t354) = some r := H
      have A35 := Aside0.mk A350
      clear A350
      obtain rfl := Option.some.inj H
      obtain ⟨hcz36_0, hcz36_1, hcz36_2, hcz36_3, hcz36_4, hcz36_5, hcz36_6, hcz36_7, hcz36_8, hcz36_9, hcz36_10, hcz36_11, hfz36_0, hfz36_1, hfz36_2, hfz36_3, hfz36_4, hfz36_5, hfz36_6, hfz36_7, hfz36_8, hfz36_9, hfz36_10, hfz36_11⟩ := bc12_ BK351.out
      go_wp2_with (first | ((with_reducible refine gate_callee (f := 65) rfl ?_); refine goesL_ (some 27) rfl rfl Tryd.func65 (by kernel_rfl) rfl #[.agg #[.int .i64 a0_0, .int .i64 a0_1, .int .i64 a0_2]] rfl (ma1_ rfl) ?_; (with_reducible refine (impl_RulesOk.calls a0_0 a0_1 a0_2 true _ A31.out).mono ?_); rintro e w37 ⟨rfl, hb⟩; refine ⟨_, rfl, ?_⟩; replace BK351 := ak_ (blk_below (bk_ BK351) hb); replace HB := ak_ (below_step hb_ hb); (try clear hb); obtain ⟨hcz38_0, hcz38_1, hcz38_2, hcz38_3, hcz38_4, hcz38_5, hcz38_6, hcz38_7, hcz38_8, hcz38_9, hcz38_10, hcz38_11, hfz38_0, hfz38_1, hfz38_2, hfz38_3, hfz38_4, hfz38_5, hfz38_6, hfz38_7, hfz38_8, hfz38_9, hfz38_10, hfz38_11⟩ := bc12_ BK351.out) | (go_at_call 66; (with_reducible refine (impl_BehaveOk.calls k1 _ _ l0_4 a0_5 a0_6 _ _ l0_7 a0_8 a0_9 a0_10 a0_11 true _ ?side1 ?side2 ?side3 ?side4 A33.out).mono ?_); (case side1 => exact kc_ HR0_4); (case side2 => exact HC0_4.out); (case side3 => exact kc_ HR0_7); (case side4 => exact HC0_7.out); rintro e w39 ⟨rfl, hb⟩; replace BK351 := ak_ (blk_below (bk_ BK351) hb); replace HB := ak_ (below_step hb_ hb); (try clear hb); obtain ⟨hcz40_0, hcz40_1, hcz40_2, hcz40_3, hcz40_4, hcz40_5, hcz40_6, hcz40_7, hcz40_8, hcz40_9, hcz40_10, hcz40_11, hfz40_0, hfz40_1, hfz40_2, hfz40_3, hfz40_4, hfz40_5, hfz40_6, hfz40_7, hfz40_8, hfz40_9, hfz40_10, hfz40_11⟩ := bc12_ BK351.out) | (go_at_call 47; (with_reducible refine (impl_in.calls (l0_3.length : Int) 1 3 t354 _ A35.out).mono ?_); rintro e w' ⟨rfl, ⟨nd, rfl⟩⟩))
      go_ret
      exact ⟨ew_, hb_⟩
     ·replace c34 := Bool.eq_false_iff.mpr c34
      subst c34
      rw [if_neg (show ¬ (false = true) by decide)] at H
      obtain rfl := Option.some.inj H
      obtain ⟨hcz41_0, hcz41_1, hcz41_2, hcz41_3, hcz41_4, hcz41_5, hcz41_6, hcz41_7, hcz41_8, hcz41_9, hcz41_10, hcz41_11, hfz41_0, hfz41_1, hfz41_2, hfz41_3, hfz41_4, hfz41_5, hfz41_6, hfz41_7, hfz41_8, hfz41_9, hfz41_10, hfz41_11⟩ := bc12_ BK351.out
      go_wp2_with (first | ((with_reducible refine gate_callee (f := 65) rfl ?_); refine goesL_ (some 27) rfl rfl Tryd.func65 (by kernel_rfl) rfl #[.agg #[.int .i64 a0_0, .int .i64 a0_1, .int .i64 a0_2]] rfl (ma1_ rfl) ?_; (with_reducible refine (impl_RulesOk.calls a0_0 a0_1 a0_2 true _ A31.out).mono ?_); rintro e w42 ⟨rfl, hb⟩; refine ⟨_, rfl, ?_⟩; replace BK351 := ak_ (blk_below (bk_ BK351) hb); replace HB := ak_ (below_step hb_ hb); (try clear hb); obtain ⟨hcz43_0, hcz43_1, hcz43_2, hcz43_3, hcz43_4, hcz43_5, hcz43_6, hcz43_7, hcz43_8, hcz43_9, hcz43_10, hcz43_11, hfz43_0, hfz43_1, hfz43_2, hfz43_3, hfz43_4, hfz43_5, hfz43_6, hfz43_7, hfz43_8, hfz43_9, hfz43_10, hfz43_11⟩ := bc12_ BK351.out) | (go_at_call 66; (with_reducible refine (impl_BehaveOk.calls k1 _ _ l0_4 a0_5 a0_6 _ _ l0_7 a0_8 a0_9 a0_10 a0_11 false _ ?side1 ?side2 ?side3 ?side4 A33.out).mono ?_); (case side1 => exact kc_ HR0_4); (case side2 => exact HC0_4.out); (case side3 => exact kc_ HR0_7); (case side4 => exact HC0_7.out); rintro e w44 ⟨rfl, hb⟩; replace BK351 := ak_ (blk_below (bk_ BK351) hb); replace HB := ak_ (below_step hb_ hb); (try clear hb)))
      go_ret
      exact ⟨ew_, hb_⟩
    ·replace c32 := Bool.eq_false_iff.mpr c32
     subst c32
     rw [if_neg (show ¬ (false = true) by decide)] at H
     obtain rfl := Option.some.inj H
     obtain ⟨hcz45_0, hcz45_1, hcz45_2, hcz45_3, hcz45_4, hcz45_5, hcz45_6, hcz45_7, hcz45_8, hcz45_9, hcz45_10, hcz45_11, hfz45_0, hfz45_1, hfz45_2, hfz45_3, hfz45_4, hfz45_5, hfz45_6, hfz45_7, hfz45_8, hfz45_9, hfz45_10, hfz45_11⟩ := bc12_ BK351.out
     go_wp2_with (first | ((with_reducible refine gate_callee (f := 65) rfl ?_); refine goesL_ (some 27) rfl rfl Tryd.func65 (by kernel_rfl) rfl #[.agg #[.int .i64 a0_0, .int .i64 a0_1, .int .i64 a0_2]] rfl (ma1_ rfl) ?_; (with_reducible refine (impl_RulesOk.calls a0_0 a0_1 a0_2 false _ A31.out).mono ?_); rintro e w46 ⟨rfl, hb⟩; refine ⟨_, rfl, ?_⟩; replace BK351 := ak_ (blk_below (bk_ BK351) hb); replace HB := ak_ (below_step hb_ hb); (try clear hb)))
     go_ret
     exact ⟨ew_, hb_⟩

end Go.Proofs.YtblfoelddakelaaDoor.U
