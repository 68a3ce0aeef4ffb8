-- PRINTED by print.py (a twelfth state) out of the translation. Not trusted: Lean checks it.
import Derived.Test.YtblfoelddakelaaH0
import Derived.Test.YtblfoelddakelaaH19
namespace Go.Proofs.Ytblfoelddakelaa.H
open Go.RowKit Go.Proofs.YtblfoelddakelaaW.PrintWords Go.Proofs.YtblfoelddakelaaW.PrintLast Go.Proofs.YtblfoelddakelaaW.PrintMore
attribute [local go_sem] max2_int min2_int max_two min_two max_three min_three max_four min_four   -- for this text's walks alone
set_option linter.unusedVariables false
set_option linter.unusedSimpArgs false

/-! ### spec_SideOk: function 73 -/
mutual
def spec_SideOk.j0 : Nat → Bool → List (S71) → Int → Int → Option (Bool)
  | 0, _, _, _, _ => none
  | k + 1, x20, x230000, x230001, x230002 => if x20 = true then (some false) else (spec_SideOk.l0 k 0 x230000 x230001 x230002)
def spec_SideOk.l0 : Nat → Int → List (S71) → Int → Int → Option (Bool)
  | 0, _, _, _, _ => none
  | k + 1, x3, x230000, x230001, x230002 => if x3 < (x230000.length : Int) then (if 0 ≤ x3 then ((spec_l01In.f ((rd_T71 x230000 x3).f0) 0 1).bind fun t234 => (if t234 = true then ((spec_l01In.f ((rd_T71 x230000 x3).f1) 1 1000).bind fun t235 => (if t235 = true then ((spec_l01In.f ((rd_T71 x230000 x3).f2) 1 1000).bind fun t236 => (if t236 = true then (spec_SideOk.l0 k (wrap64 (x3 + 1)) x230000 x230001 x230002) else (some false))) else (some false))) else (some false))) else (none)) else (some true)
end
def spec_SideOk.f (k : Nat) (l0_0 : List (S71)) (a0_1 : Int) (a0_2 : Int) : Option (Bool) := if (l0_0.length : Int) > 3 then (spec_SideOk.j0 k true l0_0 a0_1 a0_2) else ((spec_l01In.f a0_1 0 2).bind fun t230 => (if t230 = true then ((spec_l01In.f a0_2 0 1000).bind fun t231 => (spec_SideOk.j0 k (!t231) l0_0 a0_1 a0_2)) else (spec_SideOk.j0 k true l0_0 a0_1 a0_2)))
theorem spec_SideOk.mono_l : ∀ k, (∀ y0 y1 y2 y3, LeO (spec_SideOk.j0 k y0 y1 y2 y3) (spec_SideOk.j0 (k + 1) y0 y1 y2 y3)) ∧ (∀ y0 y1 y2 y3, LeO (spec_SideOk.l0 k y0 y1 y2 y3) (spec_SideOk.l0 (k + 1) y0 y1 y2 y3))
  | 0 => ⟨fun _ _ _ _ r h => by simp [spec_SideOk.j0] at h, fun _ _ _ _ r h => by simp [spec_SideOk.l0] at h⟩
  | k + 1 => by
    obtain ⟨ih0, ih1⟩ := spec_SideOk.mono_l k
    refine ⟨?_, ?_⟩
    · intro y0 y1 y2 y3
      unfold spec_SideOk.j0
      repeat' with_reducible first | exact ih0 _ _ _ _ | exact ih1 _ _ _ _ | exact LeO.refl _ | exact LeO.none _ | refine LeO.ite ?_ ?_ | refine LeO.bind ?_ (fun _ => ?_)
    · intro y0 y1 y2 y3
      unfold spec_SideOk.l0
      repeat' with_reducible first | exact ih0 _ _ _ _ | exact ih1 _ _ _ _ | exact LeO.refl _ | exact LeO.none _ | refine LeO.ite ?_ ?_ | refine LeO.bind ?_ (fun _ => ?_)
theorem spec_SideOk.mono : ∀ a0 a1 a2 k, LeO (spec_SideOk.f k a0 a1 a2) (spec_SideOk.f (k + 1) a0 a1 a2) := by
  intro a0 a1 a2 k
  obtain ⟨ih0, ih1⟩ := spec_SideOk.mono_l k
  unfold spec_SideOk.f
  repeat' with_reducible first | exact ih0 _ _ _ _ | exact ih1 _ _ _ _ | exact LeO.refl _ | exact LeO.none _ | refine LeO.ite ?_ ?_ | refine LeO.bind ?_ (fun _ => ?_)
set_option maxHeartbeats 8000000 in
set_option maxRecDepth 100000 in
theorem spec_SideOk.calls (k : Nat) (A0_0 : Option Addr) (c0_0 : Nat) (l0_0 : List (S71)) (a0_1 : Int) (a0_2 : Int) (r : Bool) (w : World) (hr0_0 : Kd.C k71 w A0_0 l0_0.length l0_0) (hc0_0 : l0_0.length ≤ c0_0) (h : spec_SideOk.f k l0_0 a0_1 a0_2 = some r) :
  Calls Try.prog 73 #[.agg #[.slice A0_0 l0_0.length c0_0, .int .i64 a0_1, .int .i64 a0_2]] w fun e w' => e = .returned (.bool r) ∧ Below w.heap.size w w' := by
 have hu29 := Try.underlying29
 have hu71 := Try.underlying71
 have HR0_0 := ak_ hr0_0
 have HC0_0 := ak_ hc0_0
 clear hr0_0 hc0_0
 have HB := ak_ (Below.refl w.heap.size w)
 have H : (if (l0_0.length : Int) > 3 then (spec_SideOk.j0 k true l0_0 a0_1 a0_2) else ((spec_l01In.f a0_1 0 2).bind fun t230 => (if t230 = true then ((spec_l01In.f a0_2 0 1000).bind fun t231 => (spec_SideOk.j0 k (!t231) l0_0 a0_1 a0_2)) else (spec_SideOk.j0 k true l0_0 a0_1 a0_2)))) = some r := h
 clear h
 have HC2 := ak_ H
 clear H
 go_enter Try.func73, Try.ntmps73
 go_upto_region 1 with (first | ((with_reducible refine gate_dst (N := 1) rfl ?_); refine be_ (N := 1) (cs := #[.slice A0_0 l0_0.length c0_0, .int .i64 a0_1, .int .i64 a0_2]) (t := 29) ?_; intro gb229 hg w3 hbox hb; have BK229 := ak_ hbox; have GW229 := ak_ ((gs_ hg : w.heap.size ≤ gb229)); have GE229 := ak_ ((gs_ hg : w.heap.size ≤ gb229)); replace HB := ak_ (below_step hb_ hb); clear hb hbox hg))
 (try simp only [Act.put, List.setIfInBounds_toArray, List.set_cons_zero, List.set_cons_succ])
 go_cut [20] (fun v20 wc => ∃ (kq : Nat) (x20_1 : Bool), v20 = .bool x20_1 ∧ Aside0 (spec_SideOk.j0 kq x20_1 l0_0 a0_1 a0_2 = some r) ∧ Aside0 (kq ≤ k) ∧ Aside0 (wc.heap[gb229]? = some (.cells #[(.slice A0_0 l0_0.length c0_0), .int .i64 a0_1, .int .i64 a0_2] 29 (0, 0))) ∧ Aside0 (Below w.heap.size w wc))
 case first =>
  have H := HC2.out
  clear HC2
  by_cases c4 : (l0_0.length : Int) > 3
  ·rw [if_pos c4] at H
   have c4b0 : decide (3 < (l0_0.length : Int)) = true := decide_eq_true c4
   have c4b1 : decide (3 < l0_0.length) = true := decide_eq_true (by omega)
   clear c4
   (first | rw [c4b0] | (simp only [i64_w, i32_w]; rw [c4b0]) | skip)
   have H' := ak_ H
   clear H
   obtain ⟨hcz5_0, hcz5_1, hcz5_2, hfz5_0, hfz5_1, hfz5_2⟩ := bc3_ BK229.out
   go_wp2
   go_meet
   case rel => exact ⟨_, (true), (by first | rfl | (simp; done) | (simp [*]; done)), H', ⟨by first | omega | exact Nat.le_refl _⟩, ⟨by (with_reducible repeat (first | refine kn_ ?_ _ | refine kd_ ?_ | refine ka_ ?_ _)); exact BK229.out⟩, ⟨hb_⟩⟩
  ·rw [if_neg c4] at H
   have c4b0 : decide (3 < (l0_0.length : Int)) = false := decide_eq_false c4
   have c4b1 : decide (3 < l0_0.length) = false := decide_eq_false (by omega)
   clear c4
   (first | rw [c4b0] | (simp only [i64_w, i32_w]; rw [c4b0]) | skip)
   replace H := Option.bind_eq_some_iff.mp H
   obtain ⟨t230, A60, H⟩ := H
   replace H : (if t230 = true then ((spec_l01In.f a0_2 0 1000).bind fun t231 => (spec_SideOk.j0 k (!t231) l0_0 a0_1 a0_2)) else (spec_SideOk.j0 k true l0_0 a0_1 a0_2)) = some r := H
   have A6 := ak_ A60
   clear A60
   by_cases c7 : t230 = true
   ·subst c7
    rw [if_pos rfl] at H
    replace H := Option.bind_eq_some_iff.mp H
    obtain ⟨t231, A80, H⟩ := H
    replace H : (spec_SideOk.j0 k (!t231) l0_0 a0_1 a0_2) = some r := H
    have A8 := ak_ A80
    clear A80
    have H' := ak_ H
    clear H
    obtain ⟨hcz9_0, hcz9_1, hcz9_2, hfz9_0, hfz9_1, hfz9_2⟩ := bc3_ BK229.out
    go_wp2_with (first | (go_at_call 27; (with_reducible refine (spec_l01In.calls a0_1 0 2 true _ A6.out).mono ?_); rintro e w' ⟨rfl, ⟨nd, rfl⟩⟩) | (go_at_call 27; (with_reducible refine (spec_l01In.calls a0_2 0 1000 t231 _ A8.out).mono ?_); rintro e w' ⟨rfl, ⟨nd, rfl⟩⟩))
    go_meet
    case rel => exact ⟨_, (!t231), (by first | rfl | (simp; done) | (simp [*]; done)), H', ⟨by first | omega | exact Nat.le_refl _⟩, ⟨by (with_reducible repeat (first | refine kn_ ?_ _ | refine kd_ ?_ | refine ka_ ?_ _)); exact BK229.out⟩, ⟨hb_⟩⟩
   ·replace c7 := Bool.eq_false_iff.mpr c7
    subst c7
    rw [if_neg (show ¬ (false = true) by decide)] at H
    have H' := ak_ H
    clear H
    obtain ⟨hcz10_0, hcz10_1, hcz10_2, hfz10_0, hfz10_1, hfz10_2⟩ := bc3_ BK229.out
    go_wp2_with (first | (go_at_call 27; (with_reducible refine (spec_l01In.calls a0_1 0 2 false _ A6.out).mono ?_); rintro e w' ⟨rfl, ⟨nd, rfl⟩⟩))
    go_meet
    case rel => exact ⟨_, (true), (by first | rfl | (simp; done) | (simp [*]; done)), H', ⟨by first | omega | exact Nat.le_refl _⟩, ⟨by (with_reducible repeat (first | refine kn_ ?_ _ | refine kd_ ?_ | refine ka_ ?_ _)); exact BK229.out⟩, ⟨hb_⟩⟩
 case rest =>
  clear HC2
  try clear p2
  try clear c4
  try clear c4b0
  try clear c4b1
  try clear c7
  (try clear hcz10_0 hcz10_1 hcz10_2 hfz10_0 hfz10_1 hfz10_2); (try clear hcz5_0 hcz5_1 hcz5_2 hfz5_0 hfz5_1 hfz5_2); (try clear hcz9_0 hcz9_1 hcz9_2 hfz9_0 hfz9_1 hfz9_2)
  obtain ⟨kq, x20_1, rfl, HA, HJ1, BK229, HB⟩ := hcut
  cases kq with
  | zero => exact absurd HA.out (by simp [spec_SideOk.j0])
  | succ kj1 =>
   have H := HA.out
   clear HA
   simp only [spec_SideOk.j0] at H
   by_cases c11 : x20_1 = true
   ·subst c11
    rw [if_pos rfl] at H
    obtain rfl := Option.some.inj H
    go_wp2
    go_ret
    exact ⟨ew_, hb_⟩
   ·replace c11 := Bool.eq_false_iff.mpr c11
    subst c11
    rw [if_neg (show ¬ (false = true) by decide)] at H
    have H' := ak_ H
    clear H
    go_wp2
    go_loopg [3] kj1 (fun kq v3 w' => ∃ (x3_2 : Int), v3 = .int .i64 x3_2 ∧ Aside0 (spec_SideOk.l0 kq x3_2 l0_0 a0_1 a0_2 = some r) ∧ Aside0 (kq ≤ kj1) ∧ Aside0 (w'.heap[gb229]? = some (.cells #[(.slice A0_0 l0_0.length c0_0), .int .i64 a0_1, .int .i64 a0_2] 29 (0, 0))) ∧ Aside0 (Below w.heap.size w w'))
    case atStart => exact ⟨(0), (by first | rfl | (simp; done) | (simp [*]; done)), H', ⟨Nat.le_refl _⟩, ⟨by (with_reducible repeat (first | refine kn_ ?_ _ | refine kd_ ?_ | refine ka_ ?_ _)); exact BK229.out⟩, ⟨hb_⟩⟩
    case round =>
     clear H'
     try clear c1
     try clear p2
     try clear c4
     try clear c4b0
     try clear c4b1
     try clear c7
     try clear c11
     try clear p2
     (try clear hcz10_0 hcz10_1 hcz10_2 hfz10_0 hfz10_1 hfz10_2); (try clear hcz5_0 hcz5_1 hcz5_2 hfz5_0 hfz5_1 hfz5_2); (try clear hcz9_0 hcz9_1 hcz9_2 hfz9_0 hfz9_1 hfz9_2)
     obtain ⟨x3_2, rfl, HA, HK2, BK229, HB⟩ := hrel
     cases gk with
     | zero => exact absurd HA.out (by simp [spec_SideOk.l0])
     | succ k2 =>
      have H := HA.out
      clear HA
      simp only [spec_SideOk.l0] at H
      by_cases c12 : x3_2 < (l0_0.length : Int)
      ·rw [if_pos c12] at H
       have c12b0 : decide (x3_2 < (l0_0.length : Int)) = true := decide_eq_true c12
       clear c12
       by_cases c13 : 0 ≤ x3_2
       ·rw [if_pos c13] at H
        have c13b0 : decide (0 ≤ x3_2) = true := decide_eq_true c13
        clear c13
        replace H := Option.bind_eq_some_iff.mp H
        obtain ⟨t234, A140, H⟩ := H
        replace H : (if t234 = true then ((spec_l01In.f ((rd_T71 l0_0 x3_2).f1) 1 1000).bind fun t235 => (if t235 = true then ((spec_l01In.f ((rd_T71 l0_0 x3_2).f2) 1 1000).bind fun t236 => (if t236 = true then (spec_SideOk.l0 k2 (wrap64 (x3_2 + 1)) l0_0 a0_1 a0_2) else (some false))) else (some false))) else (some false)) = some r := H
        have A14 := ak_ A140
        clear A140
        by_cases c15 : t234 = true
        ·subst c15
         rw [if_pos rfl] at H
         replace H := Option.bind_eq_some_iff.mp H
         obtain ⟨t235, A160, H⟩ := H
         replace H : (if t235 = true then ((spec_l01In.f ((rd_T71 l0_0 x3_2).f2) 1 1000).bind fun t236 => (if t236 = true then (spec_SideOk.l0 k2 (wrap64 (x3_2 + 1)) l0_0 a0_1 a0_2) else (some false))) else (some false)) = some r := H
         have A16 := ak_ A160
         clear A160
         by_cases c17 : t235 = true
         ·subst c17
          rw [if_pos rfl] at H
          replace H := Option.bind_eq_some_iff.mp H
          obtain ⟨t236, A180, H⟩ := H
          replace H : (if t236 = true then (spec_SideOk.l0 k2 (wrap64 (x3_2 + 1)) l0_0 a0_1 a0_2) else (some false)) = some r := H
          have A18 := ak_ A180
          clear A180
          by_cases c19 : t236 = true
          ·subst c19
           rw [if_pos rfl] at H
           have H' := ak_ H
           clear H
           obtain ⟨hcz20_0, hcz20_1, hcz20_2, hfz20_0, hfz20_1, hfz20_2⟩ := bc3_ BK229.out
           have p232 : 0 ≤ (x3_2 : Int) := of_decide_eq_true (by first | (with_reducible assumption) | assumption)
           have q232 : x3_2 < (l0_0.length : Int) := of_decide_eq_true (by first | (with_reducible assumption) | assumption)
           obtain ⟨ad232, e232, hx232_0, hx232_1, hx232_2⟩ := at_T71 HR0_0.out x3_2 p232 q232
           cases e232
           replace hx232_0 := cx_ HB hx232_0
           replace hx232_1 := cx_ HB hx232_1
           replace hx232_2 := cx_ HB hx232_2
           replace p232 := eq_true p232
           replace q232 := eq_true q232
           go_wp2_with (first | ((with_reducible refine gate_dst (N := 4) rfl ?_); refine be_ (N := 4) (cs := #[.int .i64 0, .int .i64 0, .int .i64 0]) (t := 71) ?_; intro gb233 hg w21 hbox hb; have BK233 := ak_ hbox; have GW233 := ak_ ((gs_ hg : w.heap.size ≤ gb233)); have GE233 := ak_ ((gs_ hg : w.heap.size ≤ gb233)); replace HB := ak_ (below_step hb_ hb); have NB229_233 := ak_ (nl_ hg (bk_ BK229)); have NB233_229 := ak_ (ng_ hg (bk_ BK229)); replace BK229 := ak_ (blk_below (bk_ BK229) hb); clear hb hbox hg; have hnb22 := NB233_229.out; have hnc22 := NB229_233.out; obtain ⟨hcz23_0, hcz23_1, hcz23_2, hfz23_0, hfz23_1, hfz23_2⟩ := bc3_ BK233.out) | ((with_reducible refine gate_callee (f := 27) rfl ?_); refine goesL_ (some 35) rfl rfl Try.func27 (by kernel_rfl) rfl #[.int .i64 ((rd_T71 l0_0 x3_2).f0), .int .i64 0, .int .i64 1] rfl (ma3_ rfl rfl rfl) ?_; (with_reducible refine (spec_l01In.calls ((rd_T71 l0_0 x3_2).f0) 0 1 true _ A14.out).mono ?_); rintro e w' ⟨rfl, ⟨nd, rfl⟩⟩; refine ⟨_, rfl, ?_⟩) | (go_at_call 27; (with_reducible refine (spec_l01In.calls ((rd_T71 l0_0 x3_2).f1) 1 1000 true _ A16.out).mono ?_); rintro e w' ⟨rfl, ⟨nd, rfl⟩⟩) | (go_at_call 27; (with_reducible refine (spec_l01In.calls ((rd_T71 l0_0 x3_2).f2) 1 1000 true _ A18.out).mono ?_); rintro e w' ⟨rfl, ⟨nd, rfl⟩⟩))
           go_roundg k2
           case measure => have := HJ1.out; have := HK2.out; omega
           case rel => exact ⟨(wrap64 (x3_2 + 1)), (by first | rfl | (simp; done) | (simp [*]; done)), H', ⟨by have := HJ1.out; have := HK2.out; omega⟩, ⟨bq_ BK229⟩, ⟨hb_⟩⟩
          ·replace c19 := Bool.eq_false_iff.mpr c19
           subst c19
           rw [if_neg (show ¬ (false = true) by decide)] at H
           obtain rfl := Option.some.inj H
           obtain ⟨hcz24_0, hcz24_1, hcz24_2, hfz24_0, hfz24_1, hfz24_2⟩ := bc3_ BK229.out
           have p232 : 0 ≤ (x3_2 : Int) := of_decide_eq_true (by first | (with_reducible assumption) | assumption)
           have q232 : x3_2 < (l0_0.length : Int) := of_decide_eq_true (by first | (with_reducible assumption) | assumption)
           obtain ⟨ad232, e232, hx232_0, hx232_1, hx232_2⟩ := at_T71 HR0_0.out x3_2 p232 q232
           cases e232
           replace hx232_0 := cx_ HB hx232_0
           replace hx232_1 := cx_ HB hx232_1
           replace hx232_2 := cx_ HB hx232_2
           replace p232 := eq_true p232
           replace q232 := eq_true q232
           go_wp2_with (first | ((with_reducible refine gate_dst (N := 4) rfl ?_); refine be_ (N := 4) (cs := #[.int .i64 0, .int .i64 0, .int .i64 0]) (t := 71) ?_; intro gb233 hg w25 hbox hb; have BK233 := ak_ hbox; have GW233 := ak_ ((gs_ hg : w.heap.size ≤ gb233)); have GE233 := ak_ ((gs_ hg : w.heap.size ≤ gb233)); replace HB := ak_ (below_step hb_ hb); have NB229_233 := ak_ (nl_ hg (bk_ BK229)); have NB233_229 := ak_ (ng_ hg (bk_ BK229)); replace BK229 := ak_ (blk_below (bk_ BK229) hb); clear hb hbox hg; have hnb26 := NB233_229.out; have hnc26 := NB229_233.out; obtain ⟨hcz27_0, hcz27_1, hcz27_2, hfz27_0, hfz27_1, hfz27_2⟩ := bc3_ BK233.out) | ((with_reducible refine gate_callee (f := 27) rfl ?_); refine goesL_ (some 35) rfl rfl Try.func27 (by kernel_rfl) rfl #[.int .i64 ((rd_T71 l0_0 x3_2).f0), .int .i64 0, .int .i64 1] rfl (ma3_ rfl rfl rfl) ?_; (with_reducible refine (spec_l01In.calls ((rd_T71 l0_0 x3_2).f0) 0 1 true _ A14.out).mono ?_); rintro e w' ⟨rfl, ⟨nd, rfl⟩⟩; refine ⟨_, rfl, ?_⟩) | (go_at_call 27; (with_reducible refine (spec_l01In.calls ((rd_T71 l0_0 x3_2).f1) 1 1000 true _ A16.out).mono ?_); rintro e w' ⟨rfl, ⟨nd, rfl⟩⟩) | (go_at_call 27; (with_reducible refine (spec_l01In.calls ((rd_T71 l0_0 x3_2).f2) 1 1000 false _ A18.out).mono ?_); rintro e w' ⟨rfl, ⟨nd, rfl⟩⟩))
           go_ret
           exact ⟨ew_, hb_⟩
         ·replace c17 := Bool.eq_false_iff.mpr c17
          subst c17
          rw [if_neg (show ¬ (false = true) by decide)] at H
          obtain rfl := Option.some.inj H
          obtain ⟨hcz28_0, hcz28_1, hcz28_2, hfz28_0, hfz28_1, hfz28_2⟩ := bc3_ BK229.out
          have p232 : 0 ≤ (x3_2 : Int) := of_decide_eq_true (by first | (with_reducible assumption) | assumption)
          have q232 : x3_2 < (l0_0.length : Int) := of_decide_eq_true (by first | (with_reducible assumption) | assumption)
          obtain ⟨ad232, e232, hx232_0, hx232_1, hx232_2⟩ := at_T71 HR0_0.out x3_2 p232 q232
          cases e232
          replace hx232_0 := cx_ HB hx232_0
          replace hx232_1 := cx_ HB hx232_1
          replace hx232_2 := cx_ HB hx232_2
          replace p232 := eq_true p232
          replace q232 := eq_true q232
          go_wp2_with (first | ((with_reducible refine gate_dst (N := 4) rfl ?_); refine be_ (N := 4) (cs := #[.int .i64 0, .int .i64 0, .int .i64 0]) (t := 71) ?_; intro gb233 hg w29 hbox hb; have BK233 := ak_ hbox; have GW233 := ak_ ((gs_ hg : w.heap.size ≤ gb233)); have GE233 := ak_ ((gs_ hg : w.heap.size ≤ gb233)); replace HB := ak_ (below_step hb_ hb); have NB229_233 := ak_ (nl_ hg (bk_ BK229)); have NB233_229 := ak_ (ng_ hg (bk_ BK229)); replace BK229 := ak_ (blk_below (bk_ BK229) hb); clear hb hbox hg; have hnb30 := NB233_229.out; have hnc30 := NB229_233.out; obtain ⟨hcz31_0, hcz31_1, hcz31_2, hfz31_0, hfz31_1, hfz31_2⟩ := bc3_ BK233.out) | ((with_reducible refine gate_callee (f := 27) rfl ?_); refine goesL_ (some 35) rfl rfl Try.func27 (by kernel_rfl) rfl #[.int .i64 ((rd_T71 l0_0 x3_2).f0), .int .i64 0, .int .i64 1] rfl (ma3_ rfl rfl rfl) ?_; (with_reducible refine (spec_l01In.calls ((rd_T71 l0_0 x3_2).f0) 0 1 true _ A14.out).mono ?_); rintro e w' ⟨rfl, ⟨nd, rfl⟩⟩; refine ⟨_, rfl, ?_⟩) | (go_at_call 27; (with_reducible refine (spec_l01In.calls ((rd_T71 l0_0 x3_2).f1) 1 1000 false _ A16.out).mono ?_); rintro e w' ⟨rfl, ⟨nd, rfl⟩⟩))
          go_ret
          exact ⟨ew_, hb_⟩
        ·replace c15 := Bool.eq_false_iff.mpr c15
         subst c15
         rw [if_neg (show ¬ (false = true) by decide)] at H
         obtain rfl := Option.some.inj H
         obtain ⟨hcz32_0, hcz32_1, hcz32_2, hfz32_0, hfz32_1, hfz32_2⟩ := bc3_ BK229.out
         have p232 : 0 ≤ (x3_2 : Int) := of_decide_eq_true (by first | (with_reducible assumption) | assumption)
         have q232 : x3_2 < (l0_0.length : Int) := of_decide_eq_true (by first | (with_reducible assumption) | assumption)
         obtain ⟨ad232, e232, hx232_0, hx232_1, hx232_2⟩ := at_T71 HR0_0.out x3_2 p232 q232
         cases e232
         replace hx232_0 := cx_ HB hx232_0
         replace hx232_1 := cx_ HB hx232_1
         replace hx232_2 := cx_ HB hx232_2
         replace p232 := eq_true p232
         replace q232 := eq_true q232
         go_wp2_with (first | ((with_reducible refine gate_dst (N := 4) rfl ?_); refine be_ (N := 4) (cs := #[.int .i64 0, .int .i64 0, .int .i64 0]) (t := 71) ?_; intro gb233 hg w33 hbox hb; have BK233 := ak_ hbox; have GW233 := ak_ ((gs_ hg : w.heap.size ≤ gb233)); have GE233 := ak_ ((gs_ hg : w.heap.size ≤ gb233)); replace HB := ak_ (below_step hb_ hb); have NB229_233 := ak_ (nl_ hg (bk_ BK229)); have NB233_229 := ak_ (ng_ hg (bk_ BK229)); replace BK229 := ak_ (blk_below (bk_ BK229) hb); clear hb hbox hg; have hnb34 := NB233_229.out; have hnc34 := NB229_233.out; obtain ⟨hcz35_0, hcz35_1, hcz35_2, hfz35_0, hfz35_1, hfz35_2⟩ := bc3_ BK233.out) | ((with_reducible refine gate_callee (f := 27) rfl ?_); refine goesL_ (some 35) rfl rfl Try.func27 (by kernel_rfl) rfl #[.int .i64 ((rd_T71 l0_0 x3_2).f0), .int .i64 0, .int .i64 1] rfl (ma3_ rfl rfl rfl) ?_; (with_reducible refine (spec_l01In.calls ((rd_T71 l0_0 x3_2).f0) 0 1 false _ A14.out).mono ?_); rintro e w' ⟨rfl, ⟨nd, rfl⟩⟩; refine ⟨_, rfl, ?_⟩))
         go_ret
         exact ⟨ew_, hb_⟩
       ·rw [if_neg c13] at H
        exact absurd H (by simp)
      ·rw [if_neg c12] at H
       have c12b0 : decide (x3_2 < (l0_0.length : Int)) = false := decide_eq_false c12
       clear c12
       obtain rfl := Option.some.inj H
       obtain ⟨hcz36_0, hcz36_1, hcz36_2, hfz36_0, hfz36_1, hfz36_2⟩ := bc3_ BK229.out
       go_wp2
       go_ret
       exact ⟨ew_, hb_⟩

end Go.Proofs.Ytblfoelddakelaa.H
