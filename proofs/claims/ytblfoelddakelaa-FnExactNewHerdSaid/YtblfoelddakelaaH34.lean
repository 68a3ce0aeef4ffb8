-- PRINTED by print.py (a twelfth state) out of the translation. Not trusted: Lean checks it.
import Derived.Test.YtblfoelddakelaaH0
import Derived.Test.YtblfoelddakelaaH28
import Derived.Test.YtblfoelddakelaaH30
import Derived.Test.YtblfoelddakelaaH32
import Derived.Test.YtblfoelddakelaaH33
namespace Go.Proofs.Ytblfoelddakelaa.H
open Go.RowKit Go.Proofs.YtblfoelddakelaaW.PrintWords Go.Proofs.YtblfoelddakelaaW.PrintLast Go.Proofs.YtblfoelddakelaaW.PrintMore
attribute [local go_sem] max2_int min2_int max_two min_two max_three min_three max_four min_four   -- for this text's walks alone
set_option linter.unusedVariables false
set_option linter.unusedSimpArgs false

/-! ### impl_SetupOk: function 21 -/
def impl_SetupOk.l0 : Nat → List (S49) → Int → Int → Int → Int → Int → List (S49) → List (S71) → Int → Int → List (S71) → Int → Int → Int → Int → Option (Bool)
  | 0, _, _, _, _, _, _, _, _, _, _, _, _, _, _, _ => none
  | k + 1, x6, x7, x8, x323000, x323001, x323002, x323003, x323004, x323005, x323006, x323007, x323008, x323009, x323010, x323011 => if x8 < x7 then (if 0 ≤ x8 then (if x8 < (x6.length : Int) then ((impl_GoalOk.f k ((rd_T49 x6 x8).f0) ((rd_T49 x6 x8).f1) ((rd_T49 x6 x8).f2)).bind fun t328 => (if t328 = true then (if x8 ≤ (x323003.length : Int) then ((impl_hasMetric.f (x323003.take (x8 : Int).toNat) ((rd_T49 x6 x8).f0) ((rd_T49 x6 x8).f1) ((rd_T49 x6 x8).f2)).bind fun t333 => (if t333 = true then (some false) else (impl_SetupOk.l0 k x6 x7 (wrap64 (x8 + 1)) x323000 x323001 x323002 x323003 x323004 x323005 x323006 x323007 x323008 x323009 x323010 x323011))) else (none)) else (some false))) else (none)) else (none)) else ((impl_RulesOk.f x323000 x323001 x323002).bind fun t323 => (if t323 = true then ((impl_BehaveOk.f k x323004 x323005 x323006 x323007 x323008 x323009 x323010 x323011).bind fun t324 => (if t324 = true then ((impl_in.f (x323003.length : Int) 1 3).bind fun t325 => (some t325)) else (some false))) else (some false)))
def impl_SetupOk.f (k : Nat) (a0_0 : Int) (a0_1 : Int) (a0_2 : Int) (l0_3 : List (S49)) (l0_4 : List (S71)) (a0_5 : Int) (a0_6 : Int) (l0_7 : List (S71)) (a0_8 : Int) (a0_9 : Int) (a0_10 : Int) (a0_11 : Int) : Option (Bool) := impl_SetupOk.l0 k l0_3 (l0_3.length : Int) 0 a0_0 a0_1 a0_2 l0_3 l0_4 a0_5 a0_6 l0_7 a0_8 a0_9 a0_10 a0_11
theorem impl_SetupOk.mono_l : ∀ k, (∀ y0 y1 y2 y3 y4 y5 y6 y7 y8 y9 y10 y11 y12 y13 y14, LeO (impl_SetupOk.l0 k y0 y1 y2 y3 y4 y5 y6 y7 y8 y9 y10 y11 y12 y13 y14) (impl_SetupOk.l0 (k + 1) y0 y1 y2 y3 y4 y5 y6 y7 y8 y9 y10 y11 y12 y13 y14))
  | 0 => fun _ _ _ _ _ _ _ _ _ _ _ _ _ _ _ r h => by simp [impl_SetupOk.l0] at h
  | k + 1 => by
    have ih0 := impl_SetupOk.mono_l k
    · intro y0 y1 y2 y3 y4 y5 y6 y7 y8 y9 y10 y11 y12 y13 y14
      unfold impl_SetupOk.l0
      repeat' with_reducible first | exact ih0 _ _ _ _ _ _ _ _ _ _ _ _ _ _ _ | exact impl_BehaveOk.mono _ _ _ _ _ _ _ _ _ | exact impl_GoalOk.mono _ _ _ _ | exact LeO.refl _ | exact LeO.none _ | refine LeO.ite ?_ ?_ | refine LeO.bind ?_ (fun _ => ?_)
theorem impl_SetupOk.mono : ∀ a0 a1 a2 a3 a4 a5 a6 a7 a8 a9 a10 a11 k, LeO (impl_SetupOk.f k a0 a1 a2 a3 a4 a5 a6 a7 a8 a9 a10 a11) (impl_SetupOk.f (k + 1) a0 a1 a2 a3 a4 a5 a6 a7 a8 a9 a10 a11) := by
  intro a0 a1 a2 a3 a4 a5 a6 a7 a8 a9 a10 a11 k
  have ih0 := impl_SetupOk.mono_l k
  unfold impl_SetupOk.f
  repeat' with_reducible first | exact ih0 _ _ _ _ _ _ _ _ _ _ _ _ _ _ _ | exact impl_BehaveOk.mono _ _ _ _ _ _ _ _ _ | exact impl_GoalOk.mono _ _ _ _ | exact LeO.refl _ | exact LeO.none _ | refine LeO.ite ?_ ?_ | refine LeO.bind ?_ (fun _ => ?_)
set_option maxHeartbeats 8000000 in
set_option maxRecDepth 100000 in
theorem impl_SetupOk.calls (k : Nat) (a0_0 : Int) (a0_1 : Int) (a0_2 : Int) (A0_3 : Option Addr) (c0_3 : Nat) (l0_3 : List (S49)) (A0_4 : Option Addr) (c0_4 : Nat) (l0_4 : List (S71)) (a0_5 : Int) (a0_6 : Int) (A0_7 : Option Addr) (c0_7 : Nat) (l0_7 : List (S71)) (a0_8 : Int) (a0_9 : Int) (a0_10 : Int) (a0_11 : Int) (r : Bool) (w : World) (hr0_3 : Kd.C k49 w A0_3 l0_3.length l0_3) (hc0_3 : l0_3.length ≤ c0_3) (hr0_4 : Kd.C k71 w A0_4 l0_4.length l0_4) (hc0_4 : l0_4.length ≤ c0_4) (hr0_7 : Kd.C k71 w A0_7 l0_7.length l0_7) (hc0_7 : l0_7.length ≤ c0_7) (h : impl_SetupOk.f k a0_0 a0_1 a0_2 l0_3 l0_4 a0_5 a0_6 l0_7 a0_8 a0_9 a0_10 a0_11 = some r) :
  Calls Try.prog 21 #[.agg #[.int .i64 a0_0, .int .i64 a0_1, .int .i64 a0_2, .slice A0_3 l0_3.length c0_3, .slice A0_4 l0_4.length c0_4, .int .i64 a0_5, .int .i64 a0_6, .slice A0_7 l0_7.length c0_7, .int .i64 a0_8, .int .i64 a0_9, .int .i64 a0_10, .int .i64 a0_11]] w fun e w' => e = .returned (.bool r) ∧ Below w.heap.size w w' := by
 have hu33 := Try.underlying33
 have hu49 := Try.underlying49
 have hu25 := Try.underlying25
 have hu31 := Try.underlying31
 have HR0_3 := ak_ hr0_3
 have HC0_3 := ak_ hc0_3
 clear hr0_3 hc0_3
 have HR0_4 := ak_ hr0_4
 have HC0_4 := ak_ hc0_4
 clear hr0_4 hc0_4
 have HR0_7 := ak_ hr0_7
 have HC0_7 := ak_ hc0_7
 clear hr0_7 hc0_7
 have HB := ak_ (Below.refl w.heap.size w)
 have H : (impl_SetupOk.l0 k l0_3 (l0_3.length : Int) 0 a0_0 a0_1 a0_2 l0_3 l0_4 a0_5 a0_6 l0_7 a0_8 a0_9 a0_10 a0_11) = some r := h
 clear h
 have H' := ak_ H
 clear H
 go_enter Try.func21, Try.ntmps21
 go_wp2_with (first | ((with_reducible refine gate_dst (N := 1) rfl ?_); refine be_ (N := 1) (cs := #[.int .i64 a0_0, .int .i64 a0_1, .int .i64 a0_2, .slice A0_3 l0_3.length c0_3, .slice A0_4 l0_4.length c0_4, .int .i64 a0_5, .int .i64 a0_6, .slice A0_7 l0_7.length c0_7, .int .i64 a0_8, .int .i64 a0_9, .int .i64 a0_10, .int .i64 a0_11]) (t := 33) ?_; intro gb322 hg w2 hbox hb; have BK322 := ak_ hbox; have GW322 := ak_ ((gs_ hg : w.heap.size ≤ gb322)); have GE322 := ak_ ((gs_ hg : w.heap.size ≤ gb322)); replace HB := ak_ (below_step hb_ hb); clear hb hbox hg; obtain ⟨hcz3_0, hcz3_1, hcz3_2, hcz3_3, hcz3_4, hcz3_5, hcz3_6, hcz3_7, hcz3_8, hcz3_9, hcz3_10, hcz3_11, hfz3_0, hfz3_1, hfz3_2, hfz3_3, hfz3_4, hfz3_5, hfz3_6, hfz3_7, hfz3_8, hfz3_9, hfz3_10, hfz3_11⟩ := bc12_ BK322.out))
 go_loopg [8] k (fun kq v8 w' => ∃ (x8_1 : Int), v8 = .int .i64 x8_1 ∧ Aside0 (impl_SetupOk.l0 kq l0_3 (l0_3.length : Int) x8_1 a0_0 a0_1 a0_2 l0_3 l0_4 a0_5 a0_6 l0_7 a0_8 a0_9 a0_10 a0_11 = some r) ∧ Aside0 (kq ≤ k) ∧ Aside0 (w'.heap[gb322]? = some (.cells #[.int .i64 a0_0, .int .i64 a0_1, .int .i64 a0_2, (.slice A0_3 l0_3.length c0_3), (.slice A0_4 l0_4.length c0_4), .int .i64 a0_5, .int .i64 a0_6, (.slice A0_7 l0_7.length c0_7), .int .i64 a0_8, .int .i64 a0_9, .int .i64 a0_10, .int .i64 a0_11] 33 (0, 0))) ∧ Aside0 (Below w.heap.size w w'))
 case atStart => exact ⟨(0), (by first | rfl | (simp; done) | (simp [*]; done)), H', ⟨Nat.le_refl _⟩, ⟨by (with_reducible repeat (first | refine kn_ ?_ _ | refine kd_ ?_ | refine ka_ ?_ _)); exact BK322.out⟩, ⟨hb_⟩⟩
 case round =>
  clear H'
  try clear c2
  try clear p2
  (try clear hcz3_0 hcz3_1 hcz3_10 hcz3_11 hcz3_2 hcz3_3 hcz3_4 hcz3_5 hcz3_6 hcz3_7 hcz3_8 hcz3_9 hfz3_0 hfz3_1 hfz3_10 hfz3_11 hfz3_2 hfz3_3 hfz3_4 hfz3_5 hfz3_6 hfz3_7 hfz3_8 hfz3_9)
  obtain ⟨x8_1, rfl, HA, HK1, BK322, HB⟩ := hrel
  cases gk with
  | zero => exact absurd HA.out (by simp [impl_SetupOk.l0])
  | succ k1 =>
   have H := HA.out
   clear HA
   simp only [impl_SetupOk.l0] at H
   by_cases c4 : x8_1 < (l0_3.length : Int)
   ·rw [if_pos c4] at H
    have c4b0 : decide (x8_1 < (l0_3.length : Int)) = true := decide_eq_true c4
    clear c4
    by_cases c5 : 0 ≤ x8_1
    ·rw [if_pos c5] at H
     have c5b0 : decide (0 ≤ x8_1) = true := decide_eq_true c5
     clear c5
     by_cases c6 : x8_1 < (l0_3.length : Int)
     ·rw [if_pos c6] at H
      have c6b0 : decide (x8_1 < (l0_3.length : Int)) = true := decide_eq_true c6
      clear c6
      replace H := Option.bind_eq_some_iff.mp H
      obtain ⟨t328, A70, H⟩ := H
      replace H : (if t328 = true then (if x8_1 ≤ (l0_3.length : Int) then ((impl_hasMetric.f (l0_3.take (x8_1 : Int).toNat) ((rd_T49 l0_3 x8_1).f0) ((rd_T49 l0_3 x8_1).f1) ((rd_T49 l0_3 x8_1).f2)).bind fun t333 => (if t333 = true then (some false) else (impl_SetupOk.l0 k1 l0_3 (l0_3.length : Int) (wrap64 (x8_1 + 1)) a0_0 a0_1 a0_2 l0_3 l0_4 a0_5 a0_6 l0_7 a0_8 a0_9 a0_10 a0_11))) else (none)) else (some false)) = some r := H
      have A7 := ak_ A70
      clear A70
      by_cases c8 : t328 = true
      ·subst c8
       rw [if_pos rfl] at H
       have c9b0 := eq_true (of_decide_eq_true (by first | (with_reducible assumption) | assumption) : 0 ≤ x8_1)
       by_cases c10 : x8_1 ≤ (l0_3.length : Int)
       ·rw [if_pos c10] at H
        have c10b0 := eq_true c10
        have c10b1 : decide (x8_1 ≤ (l0_3.length : Int)) = true := decide_eq_true c10
        clear c10
        obtain ⟨y329, hy329⟩ : ∃ y_ : List (S49), y_ = (l0_3.take (x8_1 : Int).toNat) := ⟨_, rfl⟩
        replace H : ((impl_hasMetric.f y329 ((rd_T49 l0_3 x8_1).f0) ((rd_T49 l0_3 x8_1).f1) ((rd_T49 l0_3 x8_1).f2)).bind fun t333 => (if t333 = true then (some false) else (impl_SetupOk.l0 k1 l0_3 (l0_3.length : Int) (wrap64 (x8_1 + 1)) a0_0 a0_1 a0_2 l0_3 l0_4 a0_5 a0_6 l0_7 a0_8 a0_9 a0_10 a0_11))) = some r := by first | (rw [hy329]; with_reducible exact H) | (have H2_ := (Option.bind_some _ _).symm.trans H; rw [hy329]; with_reducible exact H2_) | (have H2_ := (Option.bind_some _ _).symm.trans H; with_reducible exact H2_) | with_reducible exact H | (rw [hy329]; exact H) | exact H
        have Ny329 := ak_ hy329
        clear hy329
        replace H := Option.bind_eq_some_iff.mp H
        obtain ⟨t333, A110, H⟩ := H
        replace H : (if t333 = true then (some false) else (impl_SetupOk.l0 k1 l0_3 (l0_3.length : Int) (wrap64 (x8_1 + 1)) a0_0 a0_1 a0_2 l0_3 l0_4 a0_5 a0_6 l0_7 a0_8 a0_9 a0_10 a0_11)) = some r := H
        have A11 := ak_ A110
        clear A110
        by_cases c12 : t333 = true
        ·subst c12
         rw [if_pos rfl] at H
         obtain rfl := Option.some.inj H
         have p326 : 0 ≤ (x8_1 : Int) := of_decide_eq_true (by first | (with_reducible assumption) | assumption)
         have q326 : x8_1 < (l0_3.length : Int) := of_decide_eq_true (by first | (with_reducible assumption) | assumption)
         obtain ⟨ad326, e326, hx326_0, hx326_1, hx326_2⟩ := at_T49 HR0_3.out x8_1 p326 q326
         cases e326
         replace hx326_0 := cx_ HB hx326_0
         replace hx326_1 := cx_ HB hx326_1
         replace hx326_2 := cx_ HB hx326_2
         replace p326 := eq_true p326
         replace q326 := eq_true q326
         go_wp2_with (first | ((with_reducible refine gate_dst (N := 4) rfl ?_); refine be_ (N := 4) (cs := #[.string (⟨#[]⟩ : ByteArray), .int .i64 0, .int .i64 0]) (t := 49) ?_; intro gb327 hg w13 hbox hb; have BK327 := ak_ hbox; have GW327 := ak_ ((gs_ hg : w.heap.size ≤ gb327)); have GE327 := ak_ ((gs_ hg : w.heap.size ≤ gb327)); replace HB := ak_ (below_step hb_ hb); have NB322_327 := ak_ (nl_ hg (bk_ BK322)); have NB327_322 := ak_ (ng_ hg (bk_ BK322)); replace BK322 := ak_ (blk_below (bk_ BK322) hb); clear hb hbox hg; have hnb14 := NB327_322.out; have hnc14 := NB322_327.out; obtain ⟨hcz15_0, hcz15_1, hcz15_2, hfz15_0, hfz15_1, hfz15_2⟩ := bc3_ BK327.out) | ((with_reducible refine gate_callee (f := 44) rfl ?_); refine goesL_ (some 14) rfl rfl Try.func44 (by kernel_rfl) rfl #[.agg #[.string ((rd_T49 l0_3 x8_1).f0), .int .i64 ((rd_T49 l0_3 x8_1).f1), .int .i64 ((rd_T49 l0_3 x8_1).f2)]] rfl (ma1_ rfl) ?_; (with_reducible refine (impl_GoalOk.calls k1 ((rd_T49 l0_3 x8_1).f0) ((rd_T49 l0_3 x8_1).f1) ((rd_T49 l0_3 x8_1).f2) true _ A7.out).mono ?_); rintro e w16 ⟨rfl, hb⟩; refine ⟨_, rfl, ?_⟩; replace BK322 := ak_ (blk_below (bk_ BK322) hb); replace BK327 := ak_ (blk_below (g := gb327) (o := .cells #[.string ((rd_T49 l0_3 x8_1).f0), .int .i64 ((rd_T49 l0_3 x8_1).f1), .int .i64 ((rd_T49 l0_3 x8_1).f2)] 49 (0, 0)) (bq_ BK327) hb); replace HB := ak_ (below_step hb_ hb); (try clear hb); obtain ⟨hcz17_0, hcz17_1, hcz17_2, hcz17_3, hcz17_4, hcz17_5, hcz17_6, hcz17_7, hcz17_8, hcz17_9, hcz17_10, hcz17_11, hfz17_0, hfz17_1, hfz17_2, hfz17_3, hfz17_4, hfz17_5, hfz17_6, hfz17_7, hfz17_8, hfz17_9, hfz17_10, hfz17_11⟩ := bc12_ BK322.out; have q18 : (x8_1 : Int) ≤ ((l0_3.length : Int) : Int) := of_decide_eq_true (by first | (with_reducible assumption) | assumption); obtain ⟨i018, hi018, _, hsz18, _⟩ := info_parts info49; have hroom18 : l0_3.length ≤ c0_3 := HC0_3.out; have hC18 : Kd.C k49 _ (some ad326) l0_3.length l0_3 := HR0_3.out; have hcut18 := cut_to (P := Try.prog) 26 49 .i64 Try.underlying26 hi018 (some ad326) l0_3.length c0_3 x8_1 (of_decide_eq_true (by first | (with_reducible assumption) | assumption)) q18 hroom18; have hr18 := Kd.C_take (m := (x8_1 : Int).toNat) hC18 (by omega); have hy18 : y329.length = (x8_1 : Int).toNat := (by rw [Ny329.out, List.length_take]; omega); rw [← Ny329.out] at hr18; rw [← hy18] at hcut18; have HR332 := ak_ hr18; have HC332 := ak_ (show y329.length ≤ c0_3 from by omega); clear hr18 hC18 hroom18 hi018 hsz18; have KY18 := ak_ hy18; clear hy18; replace q18 := eq_true q18) | (go_at_call 45; (with_reducible refine (impl_hasMetric.calls _ _ y329 ((rd_T49 l0_3 x8_1).f0) ((rd_T49 l0_3 x8_1).f1) ((rd_T49 l0_3 x8_1).f2) true _ _ ?side1 ?side2 ?sideG A11.out).mono ?_); (case sideG => (with_reducible repeat (first | refine kn_ ?_ _ | refine kd_ ?_ | refine ka_ ?_ _)); exact BK327.out); (case side1 => exact kc_ HR332); (case side2 => exact HC332.out); rintro e w19 ⟨rfl, hb⟩; replace BK322 := ak_ (blk_below (bk_ BK322) hb); replace BK327 := ak_ (blk_below (bk_ BK327) hb); replace HB := ak_ (below_step hb_ hb); (try clear hb)))
         go_ret
         exact ⟨ew_, hb_⟩
        ·replace c12 := Bool.eq_false_iff.mpr c12
         subst c12
         rw [if_neg (show ¬ (false = true) by decide)] at H
         have H' := ak_ H
         clear H
         have p326 : 0 ≤ (x8_1 : Int) := of_decide_eq_true (by first | (with_reducible assumption) | assumption)
         have q326 : x8_1 < (l0_3.length : Int) := of_decide_eq_true (by first | (with_reducible assumption) | assumption)
         obtain ⟨ad326, e326, hx326_0, hx326_1, hx326_2⟩ := at_T49 HR0_3.out x8_1 p326 q326
         cases e326
         replace hx326_0 := cx_ HB hx326_0
         replace hx326_1 := cx_ HB hx326_1
         replace hx326_2 := cx_ HB hx326_2
         replace p326 := eq_true p326
         replace q326 := eq_true q326
         go_wp2_with (first | ((with_reducible refine gate_dst (N := 4) rfl ?_); refine be_ (N := 4) (cs := #[.string (⟨#[]⟩ : ByteArray), .int .i64 0, .int .i64 0]) (t := 49) ?_; intro gb327 hg w20 hbox hb; have BK327 := ak_ hbox; have GW327 := ak_ ((gs_ hg : w.heap.size ≤ gb327)); have GE327 := ak_ ((gs_ hg : w.heap.size ≤ gb327)); replace HB := ak_ (below_step hb_ hb); have NB322_327 := ak_ (nl_ hg (bk_ BK322)); have NB327_322 := ak_ (ng_ hg (bk_ BK322)); replace BK322 := ak_ (blk_below (bk_ BK322) hb); clear hb hbox hg; have hnb21 := NB327_322.out; have hnc21 := NB322_327.out; obtain ⟨hcz22_0, hcz22_1, hcz22_2, hfz22_0, hfz22_1, hfz22_2⟩ := bc3_ BK327.out) | ((with_reducible refine gate_callee (f := 44) rfl ?_); refine goesL_ (some 14) rfl rfl Try.func44 (by kernel_rfl) rfl #[.agg #[.string ((rd_T49 l0_3 x8_1).f0), .int .i64 ((rd_T49 l0_3 x8_1).f1), .int .i64 ((rd_T49 l0_3 x8_1).f2)]] rfl (ma1_ rfl) ?_; (with_reducible refine (impl_GoalOk.calls k1 ((rd_T49 l0_3 x8_1).f0) ((rd_T49 l0_3 x8_1).f1) ((rd_T49 l0_3 x8_1).f2) true _ A7.out).mono ?_); rintro e w23 ⟨rfl, hb⟩; refine ⟨_, rfl, ?_⟩; replace BK322 := ak_ (blk_below (bk_ BK322) hb); replace BK327 := ak_ (blk_below (g := gb327) (o := .cells #[.string ((rd_T49 l0_3 x8_1).f0), .int .i64 ((rd_T49 l0_3 x8_1).f1), .int .i64 ((rd_T49 l0_3 x8_1).f2)] 49 (0, 0)) (bq_ BK327) hb); replace HB := ak_ (below_step hb_ hb); (try clear hb); obtain ⟨hcz24_0, hcz24_1, hcz24_2, hcz24_3, hcz24_4, hcz24_5, hcz24_6, hcz24_7, hcz24_8, hcz24_9, hcz24_10, hcz24_11, hfz24_0, hfz24_1, hfz24_2, hfz24_3, hfz24_4, hfz24_5, hfz24_6, hfz24_7, hfz24_8, hfz24_9, hfz24_10, hfz24_11⟩ := bc12_ BK322.out; have q25 : (x8_1 : Int) ≤ ((l0_3.length : Int) : Int) := of_decide_eq_true (by first | (with_reducible assumption) | assumption); obtain ⟨i025, hi025, _, hsz25, _⟩ := info_parts info49; have hroom25 : l0_3.length ≤ c0_3 := HC0_3.out; have hC25 : Kd.C k49 _ (some ad326) l0_3.length l0_3 := HR0_3.out; have hcut25 := cut_to (P := Try.prog) 26 49 .i64 Try.underlying26 hi025 (some ad326) l0_3.length c0_3 x8_1 (of_decide_eq_true (by first | (with_reducible assumption) | assumption)) q25 hroom25; have hr25 := Kd.C_take (m := (x8_1 : Int).toNat) hC25 (by omega); have hy25 : y329.length = (x8_1 : Int).toNat := (by rw [Ny329.out, List.length_take]; omega); rw [← Ny329.out] at hr25; rw [← hy25] at hcut25; have HR332 := ak_ hr25; have HC332 := ak_ (show y329.length ≤ c0_3 from by omega); clear hr25 hC25 hroom25 hi025 hsz25; have KY25 := ak_ hy25; clear hy25; replace q25 := eq_true q25) | (go_at_call 45; (with_reducible refine (impl_hasMetric.calls _ _ y329 ((rd_T49 l0_3 x8_1).f0) ((rd_T49 l0_3 x8_1).f1) ((rd_T49 l0_3 x8_1).f2) false _ _ ?side1 ?side2 ?sideG A11.out).mono ?_); (case sideG => (with_reducible repeat (first | refine kn_ ?_ _ | refine kd_ ?_ | refine ka_ ?_ _)); exact BK327.out); (case side1 => exact kc_ HR332); (case side2 => exact HC332.out); rintro e w26 ⟨rfl, hb⟩; replace BK322 := ak_ (blk_below (bk_ BK322) hb); replace BK327 := ak_ (blk_below (bk_ BK327) hb); replace HB := ak_ (below_step hb_ hb); (try clear hb)))
         go_roundg k1
         case measure => have := HK1.out; omega
         case rel => exact ⟨(wrap64 (x8_1 + 1)), (by first | rfl | (simp; done) | (simp [*]; done)), H', ⟨by have := HK1.out; omega⟩, ⟨by (with_reducible repeat (first | refine kn_ ?_ _ | refine kd_ ?_ | refine ka_ ?_ _)); exact BK322.out⟩, ⟨hb_⟩⟩
       ·rw [if_neg c10] at H
        exact absurd H (by simp)
      ·replace c8 := Bool.eq_false_iff.mpr c8
       subst c8
       rw [if_neg (show ¬ (false = true) by decide)] at H
       obtain rfl := Option.some.inj H
       have p326 : 0 ≤ (x8_1 : Int) := of_decide_eq_true (by first | (with_reducible assumption) | assumption)
       have q326 : x8_1 < (l0_3.length : Int) := of_decide_eq_true (by first | (with_reducible assumption) | assumption)
       obtain ⟨ad326, e326, hx326_0, hx326_1, hx326_2⟩ := at_T49 HR0_3.out x8_1 p326 q326
       cases e326
       replace hx326_0 := cx_ HB hx326_0
       replace hx326_1 := cx_ HB hx326_1
       replace hx326_2 := cx_ HB hx326_2
       replace p326 := eq_true p326
       replace q326 := eq_true q326
       go_wp2_with (first | ((with_reducible refine gate_dst (N := 4) rfl ?_); refine be_ (N := 4) (cs := #[.string (⟨#[]⟩ : ByteArray), .int .i64 0, .int .i64 0]) (t := 49) ?_; intro gb327 hg w27 hbox hb; have BK327 := ak_ hbox; have GW327 := ak_ ((gs_ hg : w.heap.size ≤ gb327)); have GE327 := ak_ ((gs_ hg : w.heap.size ≤ gb327)); replace HB := ak_ (below_step hb_ hb); have NB322_327 := ak_ (nl_ hg (bk_ BK322)); have NB327_322 := ak_ (ng_ hg (bk_ BK322)); replace BK322 := ak_ (blk_below (bk_ BK322) hb); clear hb hbox hg; have hnb28 := NB327_322.out; have hnc28 := NB322_327.out; obtain ⟨hcz29_0, hcz29_1, hcz29_2, hfz29_0, hfz29_1, hfz29_2⟩ := bc3_ BK327.out) | ((with_reducible refine gate_callee (f := 44) rfl ?_); refine goesL_ (some 14) rfl rfl Try.func44 (by kernel_rfl) rfl #[.agg #[.string ((rd_T49 l0_3 x8_1).f0), .int .i64 ((rd_T49 l0_3 x8_1).f1), .int .i64 ((rd_T49 l0_3 x8_1).f2)]] rfl (ma1_ rfl) ?_; (with_reducible refine (impl_GoalOk.calls k1 ((rd_T49 l0_3 x8_1).f0) ((rd_T49 l0_3 x8_1).f1) ((rd_T49 l0_3 x8_1).f2) false _ A7.out).mono ?_); rintro e w30 ⟨rfl, hb⟩; refine ⟨_, rfl, ?_⟩; replace BK322 := ak_ (blk_below (bk_ BK322) hb); replace BK327 := ak_ (blk_below (g := gb327) (o := .cells #[.string ((rd_T49 l0_3 x8_1).f0), .int .i64 ((rd_T49 l0_3 x8_1).f1), .int .i64 ((rd_T49 l0_3 x8_1).f2)] 49 (0, 0)) (bq_ BK327) hb); replace HB := ak_ (below_step hb_ hb); (try clear hb)))
       go_ret
       exact ⟨ew_, hb_⟩
     ·rw [if_neg c6] at H
      exact absurd H (by simp)
    ·rw [if_neg c5] at H
     exact absurd H (by simp)
   ·rw [if_neg c4] at H
    have c4b0 : decide (x8_1 < (l0_3.length : Int)) = false := decide_eq_false c4
    clear c4
    replace H := Option.bind_eq_some_iff.mp H
    obtain ⟨t323, A310, H⟩ := H
    replace H : (if t323 = true then ((impl_BehaveOk.f k1 l0_4 a0_5 a0_6 l0_7 a0_8 a0_9 a0_10 a0_11).bind fun t324 => (if t324 = true then ((impl_in.f (l0_3.length : Int) 1 3).bind fun t325 => (some t325)) else (some false))) else (some false)) = some r := H
    have A31 := ak_ A310
    clear A310
    by_cases c32 : t323 = true
    ·subst c32
     rw [if_pos rfl] at H
     replace H := Option.bind_eq_some_iff.mp H
     obtain ⟨t324, A330, H⟩ := H
     replace H : (if t324 = true then ((impl_in.f (l0_3.length : Int) 1 3).bind fun t325 => (some t325)) else (some false)) = some r := H
     have A33 := ak_ A330
     clear A330
     by_cases c34 : t324 = true
     ·subst c34
      rw [if_pos rfl] at H
      replace H := Option.bind_eq_some_iff.mp H
      obtain ⟨t325, A350, H⟩ := H
      replace H : (some t325) = some r := H
      have A35 := ak_ A350
      clear A350
      obtain rfl := Option.some.inj H
      obtain ⟨hcz36_0, hcz36_1, hcz36_2, hcz36_3, hcz36_4, hcz36_5, hcz36_6, hcz36_7, hcz36_8, hcz36_9, hcz36_10, hcz36_11, hfz36_0, hfz36_1, hfz36_2, hfz36_3, hfz36_4, hfz36_5, hfz36_6, hfz36_7, hfz36_8, hfz36_9, hfz36_10, hfz36_11⟩ := bc12_ BK322.out
      go_wp2_with (first | ((with_reducible refine gate_callee (f := 47) rfl ?_); refine goesL_ (some 27) rfl rfl Try.func47 (by kernel_rfl) rfl #[.agg #[.int .i64 a0_0, .int .i64 a0_1, .int .i64 a0_2]] rfl (ma1_ rfl) ?_; (with_reducible refine (impl_RulesOk.calls a0_0 a0_1 a0_2 true _ A31.out).mono ?_); rintro e w37 ⟨rfl, hb⟩; refine ⟨_, rfl, ?_⟩; replace BK322 := ak_ (blk_below (bk_ BK322) hb); replace HB := ak_ (below_step hb_ hb); (try clear hb); obtain ⟨hcz38_0, hcz38_1, hcz38_2, hcz38_3, hcz38_4, hcz38_5, hcz38_6, hcz38_7, hcz38_8, hcz38_9, hcz38_10, hcz38_11, hfz38_0, hfz38_1, hfz38_2, hfz38_3, hfz38_4, hfz38_5, hfz38_6, hfz38_7, hfz38_8, hfz38_9, hfz38_10, hfz38_11⟩ := bc12_ BK322.out) | (go_at_call 48; (with_reducible refine (impl_BehaveOk.calls k1 _ _ l0_4 a0_5 a0_6 _ _ l0_7 a0_8 a0_9 a0_10 a0_11 true _ ?side1 ?side2 ?side3 ?side4 A33.out).mono ?_); (case side1 => exact kc_ HR0_4); (case side2 => exact HC0_4.out); (case side3 => exact kc_ HR0_7); (case side4 => exact HC0_7.out); rintro e w39 ⟨rfl, hb⟩; replace BK322 := ak_ (blk_below (bk_ BK322) hb); replace HB := ak_ (below_step hb_ hb); (try clear hb); obtain ⟨hcz40_0, hcz40_1, hcz40_2, hcz40_3, hcz40_4, hcz40_5, hcz40_6, hcz40_7, hcz40_8, hcz40_9, hcz40_10, hcz40_11, hfz40_0, hfz40_1, hfz40_2, hfz40_3, hfz40_4, hfz40_5, hfz40_6, hfz40_7, hfz40_8, hfz40_9, hfz40_10, hfz40_11⟩ := bc12_ BK322.out) | (go_at_call 28; (with_reducible refine (impl_in.calls (l0_3.length : Int) 1 3 t325 _ A35.out).mono ?_); rintro e w' ⟨rfl, ⟨nd, rfl⟩⟩))
      go_ret
      exact ⟨ew_, hb_⟩
     ·replace c34 := Bool.eq_false_iff.mpr c34
      subst c34
      rw [if_neg (show ¬ (false = true) by decide)] at H
      obtain rfl := Option.some.inj H
      obtain ⟨hcz41_0, hcz41_1, hcz41_2, hcz41_3, hcz41_4, hcz41_5, hcz41_6, hcz41_7, hcz41_8, hcz41_9, hcz41_10, hcz41_11, hfz41_0, hfz41_1, hfz41_2, hfz41_3, hfz41_4, hfz41_5, hfz41_6, hfz41_7, hfz41_8, hfz41_9, hfz41_10, hfz41_11⟩ := bc12_ BK322.out
      go_wp2_with (first | ((with_reducible refine gate_callee (f := 47) rfl ?_); refine goesL_ (some 27) rfl rfl Try.func47 (by kernel_rfl) rfl #[.agg #[.int .i64 a0_0, .int .i64 a0_1, .int .i64 a0_2]] rfl (ma1_ rfl) ?_; (with_reducible refine (impl_RulesOk.calls a0_0 a0_1 a0_2 true _ A31.out).mono ?_); rintro e w42 ⟨rfl, hb⟩; refine ⟨_, rfl, ?_⟩; replace BK322 := ak_ (blk_below (bk_ BK322) hb); replace HB := ak_ (below_step hb_ hb); (try clear hb); obtain ⟨hcz43_0, hcz43_1, hcz43_2, hcz43_3, hcz43_4, hcz43_5, hcz43_6, hcz43_7, hcz43_8, hcz43_9, hcz43_10, hcz43_11, hfz43_0, hfz43_1, hfz43_2, hfz43_3, hfz43_4, hfz43_5, hfz43_6, hfz43_7, hfz43_8, hfz43_9, hfz43_10, hfz43_11⟩ := bc12_ BK322.out) | (go_at_call 48; (with_reducible refine (impl_BehaveOk.calls k1 _ _ l0_4 a0_5 a0_6 _ _ l0_7 a0_8 a0_9 a0_10 a0_11 false _ ?side1 ?side2 ?side3 ?side4 A33.out).mono ?_); (case side1 => exact kc_ HR0_4); (case side2 => exact HC0_4.out); (case side3 => exact kc_ HR0_7); (case side4 => exact HC0_7.out); rintro e w44 ⟨rfl, hb⟩; replace BK322 := ak_ (blk_below (bk_ BK322) hb); replace HB := ak_ (below_step hb_ hb); (try clear hb)))
      go_ret
      exact ⟨ew_, hb_⟩
    ·replace c32 := Bool.eq_false_iff.mpr c32
     subst c32
     rw [if_neg (show ¬ (false = true) by decide)] at H
     obtain rfl := Option.some.inj H
     obtain ⟨hcz45_0, hcz45_1, hcz45_2, hcz45_3, hcz45_4, hcz45_5, hcz45_6, hcz45_7, hcz45_8, hcz45_9, hcz45_10, hcz45_11, hfz45_0, hfz45_1, hfz45_2, hfz45_3, hfz45_4, hfz45_5, hfz45_6, hfz45_7, hfz45_8, hfz45_9, hfz45_10, hfz45_11⟩ := bc12_ BK322.out
     go_wp2_with (first | ((with_reducible refine gate_callee (f := 47) rfl ?_); refine goesL_ (some 27) rfl rfl Try.func47 (by kernel_rfl) rfl #[.agg #[.int .i64 a0_0, .int .i64 a0_1, .int .i64 a0_2]] rfl (ma1_ rfl) ?_; (with_reducible refine (impl_RulesOk.calls a0_0 a0_1 a0_2 false _ A31.out).mono ?_); rintro e w46 ⟨rfl, hb⟩; refine ⟨_, rfl, ?_⟩; replace BK322 := ak_ (blk_below (bk_ BK322) hb); replace HB := ak_ (below_step hb_ hb); (try clear hb)))
     go_ret
     exact ⟨ew_, hb_⟩

end Go.Proofs.Ytblfoelddakelaa.H
