-- PRINTED by print.py (a twelfth state) out of the translation. Not trusted: Lean checks it.
import Derived.Test.YtblfoelddakelaaH0
import Derived.Test.YtblfoelddakelaaH6
import Derived.Test.YtblfoelddakelaaH37
import Derived.Test.YtblfoelddakelaaH38
namespace Go.Proofs.Ytblfoelddakelaa.H
open Go.RowKit Go.Proofs.YtblfoelddakelaaW.PrintWords Go.Proofs.YtblfoelddakelaaW.PrintLast Go.Proofs.YtblfoelddakelaaW.PrintMore
attribute [local go_sem] max2_int min2_int max_two min_two max_three min_three max_four min_four   -- for this text's walks alone
set_option linter.unusedVariables false
set_option linter.unusedSimpArgs false

/-! ### laws_eqHerd: function 24 -/
def laws_eqHerd.f (k : Nat) (a0_0 : Int) (a0_1 : Int) (a0_2 : Int) (l0_3 : List (S49)) (l0_4 : List (S71)) (a0_5 : Int) (a0_6 : Int) (l0_7 : List (S71)) (a0_8 : Int) (a0_9 : Int) (a0_10 : Int) (a0_11 : Int) (a0_12 : Int) (a0_13 : Int) (a0_14 : Int) (l0_15 : List (S109)) (l0_16 : List (S113)) (l0_17 : List (S116)) (l0_18 : List (S119)) (a0_19 : Int) (a0_20 : Int) (a1_0 : Int) (a1_1 : Int) (a1_2 : Int) (l1_3 : List (S49)) (l1_4 : List (S71)) (a1_5 : Int) (a1_6 : Int) (l1_7 : List (S71)) (a1_8 : Int) (a1_9 : Int) (a1_10 : Int) (a1_11 : Int) (a1_12 : Int) (a1_13 : Int) (a1_14 : Int) (l1_15 : List (S109)) (l1_16 : List (S113)) (l1_17 : List (S116)) (l1_18 : List (S119)) (a1_19 : Int) (a1_20 : Int) : Option (Bool) := (laws_eqSetup.f k a0_0 a0_1 a0_2 l0_3 l0_4 a0_5 a0_6 l0_7 a0_8 a0_9 a0_10 a0_11 a1_0 a1_1 a1_2 l1_3 l1_4 a1_5 a1_6 l1_7 a1_8 a1_9 a1_10 a1_11).bind fun t391 => (if t391 = true then (if a0_12 = a1_12 then (if a0_13 = a1_13 then (if a0_14 = a1_14 then ((laws_eqPodS.f l0_15 l1_15).bind fun t392 => (if t392 = true then ((laws_eqSeriesS.f l0_16 l1_16).bind fun t393 => (if t393 = true then ((laws_eqNoteS.f l0_17 l1_17).bind fun t394 => (if t394 = true then ((laws_eqMoveS.f l0_18 l1_18).bind fun t395 => (if t395 = true then (if a0_19 = a1_19 then (if a0_20 = a1_20 then (some true) else (some false)) else (some false)) else (some false))) else (some false))) else (some false))) else (some false))) else (some false)) else (some false)) else (some false)) else (some false))
theorem laws_eqHerd.mono : ∀ a0 a1 a2 a3 a4 a5 a6 a7 a8 a9 a10 a11 a12 a13 a14 a15 a16 a17 a18 a19 a20 a21 a22 a23 a24 a25 a26 a27 a28 a29 a30 a31 a32 a33 a34 a35 a36 a37 a38 a39 a40 a41 k, LeO (laws_eqHerd.f k a0 a1 a2 a3 a4 a5 a6 a7 a8 a9 a10 a11 a12 a13 a14 a15 a16 a17 a18 a19 a20 a21 a22 a23 a24 a25 a26 a27 a28 a29 a30 a31 a32 a33 a34 a35 a36 a37 a38 a39 a40 a41) (laws_eqHerd.f (k + 1) a0 a1 a2 a3 a4 a5 a6 a7 a8 a9 a10 a11 a12 a13 a14 a15 a16 a17 a18 a19 a20 a21 a22 a23 a24 a25 a26 a27 a28 a29 a30 a31 a32 a33 a34 a35 a36 a37 a38 a39 a40 a41) := by
  intro a0 a1 a2 a3 a4 a5 a6 a7 a8 a9 a10 a11 a12 a13 a14 a15 a16 a17 a18 a19 a20 a21 a22 a23 a24 a25 a26 a27 a28 a29 a30 a31 a32 a33 a34 a35 a36 a37 a38 a39 a40 a41 k
  unfold laws_eqHerd.f
  repeat' with_reducible first | exact laws_eqSetup.mono _ _ _ _ _ _ _ _ _ _ _ _ _ _ _ _ _ _ _ _ _ _ _ _ _ | exact LeO.refl _ | exact LeO.none _ | refine LeO.ite ?_ ?_ | refine LeO.bind ?_ (fun _ => ?_)
set_option maxHeartbeats 8000000 in
set_option maxRecDepth 100000 in
theorem laws_eqHerd.calls (k : Nat) (a0_0 : Int) (a0_1 : Int) (a0_2 : Int) (A0_3 : Option Addr) (c0_3 : Nat) (l0_3 : List (S49)) (A0_4 : Option Addr) (c0_4 : Nat) (l0_4 : List (S71)) (a0_5 : Int) (a0_6 : Int) (A0_7 : Option Addr) (c0_7 : Nat) (l0_7 : List (S71)) (a0_8 : Int) (a0_9 : Int) (a0_10 : Int) (a0_11 : Int) (a0_12 : Int) (a0_13 : Int) (a0_14 : Int) (A0_15 : Option Addr) (c0_15 : Nat) (l0_15 : List (S109)) (A0_16 : Option Addr) (c0_16 : Nat) (l0_16 : List (S113)) (A0_17 : Option Addr) (c0_17 : Nat) (l0_17 : List (S116)) (A0_18 : Option Addr) (c0_18 : Nat) (l0_18 : List (S119)) (a0_19 : Int) (a0_20 : Int) (a1_0 : Int) (a1_1 : Int) (a1_2 : Int) (A1_3 : Option Addr) (c1_3 : Nat) (l1_3 : List (S49)) (A1_4 : Option Addr) (c1_4 : Nat) (l1_4 : List (S71)) (a1_5 : Int) (a1_6 : Int) (A1_7 : Option Addr) (c1_7 : Nat) (l1_7 : List (S71)) (a1_8 : Int) (a1_9 : Int) (a1_10 : Int) (a1_11 : Int) (a1_12 : Int) (a1_13 : Int) (a1_14 : Int) (A1_15 : Option Addr) (c1_15 : Nat) (l1_15 : List (S109)) (A1_16 : Option Addr) (c1_16 : Nat) (l1_16 : List (S113)) (A1_17 : Option Addr) (c1_17 : Nat) (l1_17 : List (S116)) (A1_18 : Option Addr) (c1_18 : Nat) (l1_18 : List (S119)) (a1_19 : Int) (a1_20 : Int) (r : Bool) (hrT : Aside0 (r = true)) (w : World) (hr0_3 : Kd.C k49 w A0_3 l0_3.length l0_3) (hc0_3 : l0_3.length ≤ c0_3) (hr0_4 : Kd.C k71 w A0_4 l0_4.length l0_4) (hc0_4 : l0_4.length ≤ c0_4) (hr0_7 : Kd.C k71 w A0_7 l0_7.length l0_7) (hc0_7 : l0_7.length ≤ c0_7) (hr0_15 : Kd.C k109 w A0_15 l0_15.length l0_15) (hc0_15 : l0_15.length ≤ c0_15) (hr0_16 : Kd.C k113 w A0_16 l0_16.length l0_16) (hc0_16 : l0_16.length ≤ c0_16) (hr0_17 : Kd.C k116 w A0_17 l0_17.length l0_17) (hc0_17 : l0_17.length ≤ c0_17) (hr0_18 : Kd.C k119 w A0_18 l0_18.length l0_18) (hc0_18 : l0_18.length ≤ c0_18) (hr1_3 : Kd.C k49 w A1_3 l1_3.length l1_3) (hc1_3 : l1_3.length ≤ c1_3) (hr1_4 : Kd.C k71 w A1_4 l1_4.length l1_4) (hc1_4 : l1_4.length ≤ c1_4) (hr1_7 : Kd.C k71 w A1_7 l1_7.length l1_7) (hc1_7 : l1_7.length ≤ c1_7) (hr1_15 : Kd.C k109 w A1_15 l1_15.length l1_15) (hc1_15 : l1_15.length ≤ c1_15) (hr1_16 : Kd.C k113 w A1_16 l1_16.length l1_16) (hc1_16 : l1_16.length ≤ c1_16) (hr1_17 : Kd.C k116 w A1_17 l1_17.length l1_17) (hc1_17 : l1_17.length ≤ c1_17) (hr1_18 : Kd.C k119 w A1_18 l1_18.length l1_18) (hc1_18 : l1_18.length ≤ c1_18) (h : laws_eqHerd.f k a0_0 a0_1 a0_2 l0_3 l0_4 a0_5 a0_6 l0_7 a0_8 a0_9 a0_10 a0_11 a0_12 a0_13 a0_14 l0_15 l0_16 l0_17 l0_18 a0_19 a0_20 a1_0 a1_1 a1_2 l1_3 l1_4 a1_5 a1_6 l1_7 a1_8 a1_9 a1_10 a1_11 a1_12 a1_13 a1_14 l1_15 l1_16 l1_17 l1_18 a1_19 a1_20 = some r) :
  Calls Try.prog 24 #[.agg #[.int .i64 a0_0, .int .i64 a0_1, .int .i64 a0_2, .slice A0_3 l0_3.length c0_3, .slice A0_4 l0_4.length c0_4, .int .i64 a0_5, .int .i64 a0_6, .slice A0_7 l0_7.length c0_7, .int .i64 a0_8, .int .i64 a0_9, .int .i64 a0_10, .int .i64 a0_11, .int .i64 a0_12, .int .i64 a0_13, .int .i64 a0_14, .slice A0_15 l0_15.length c0_15, .slice A0_16 l0_16.length c0_16, .slice A0_17 l0_17.length c0_17, .slice A0_18 l0_18.length c0_18, .int .i64 a0_19, .int .i64 a0_20], .agg #[.int .i64 a1_0, .int .i64 a1_1, .int .i64 a1_2, .slice A1_3 l1_3.length c1_3, .slice A1_4 l1_4.length c1_4, .int .i64 a1_5, .int .i64 a1_6, .slice A1_7 l1_7.length c1_7, .int .i64 a1_8, .int .i64 a1_9, .int .i64 a1_10, .int .i64 a1_11, .int .i64 a1_12, .int .i64 a1_13, .int .i64 a1_14, .slice A1_15 l1_15.length c1_15, .slice A1_16 l1_16.length c1_16, .slice A1_17 l1_17.length c1_17, .slice A1_18 l1_18.length c1_18, .int .i64 a1_19, .int .i64 a1_20]] w fun e w' => e = .returned (.bool r) ∧ Below w.heap.size w w' := by
 have hu62 := Try.underlying62
 have hu33 := Try.underlying33
 have HR0_3 := ak_ hr0_3
 have HC0_3 := ak_ hc0_3
 clear hr0_3 hc0_3
 have HR0_4 := ak_ hr0_4
 have HC0_4 := ak_ hc0_4
 clear hr0_4 hc0_4
 have HR0_7 := ak_ hr0_7
 have HC0_7 := ak_ hc0_7
 clear hr0_7 hc0_7
 have HR0_15 := ak_ hr0_15
 have HC0_15 := ak_ hc0_15
 clear hr0_15 hc0_15
 have HR0_16 := ak_ hr0_16
 have HC0_16 := ak_ hc0_16
 clear hr0_16 hc0_16
 have HR0_17 := ak_ hr0_17
 have HC0_17 := ak_ hc0_17
 clear hr0_17 hc0_17
 have HR0_18 := ak_ hr0_18
 have HC0_18 := ak_ hc0_18
 clear hr0_18 hc0_18
 have HR1_3 := ak_ hr1_3
 have HC1_3 := ak_ hc1_3
 clear hr1_3 hc1_3
 have HR1_4 := ak_ hr1_4
 have HC1_4 := ak_ hc1_4
 clear hr1_4 hc1_4
 have HR1_7 := ak_ hr1_7
 have HC1_7 := ak_ hc1_7
 clear hr1_7 hc1_7
 have HR1_15 := ak_ hr1_15
 have HC1_15 := ak_ hc1_15
 clear hr1_15 hc1_15
 have HR1_16 := ak_ hr1_16
 have HC1_16 := ak_ hc1_16
 clear hr1_16 hc1_16
 have HR1_17 := ak_ hr1_17
 have HC1_17 := ak_ hc1_17
 clear hr1_17 hc1_17
 have HR1_18 := ak_ hr1_18
 have HC1_18 := ak_ hc1_18
 clear hr1_18 hc1_18
 have HB := ak_ (Below.refl w.heap.size w)
 have H : ((laws_eqSetup.f k a0_0 a0_1 a0_2 l0_3 l0_4 a0_5 a0_6 l0_7 a0_8 a0_9 a0_10 a0_11 a1_0 a1_1 a1_2 l1_3 l1_4 a1_5 a1_6 l1_7 a1_8 a1_9 a1_10 a1_11).bind fun t391 => (if t391 = true then (if a0_12 = a1_12 then (if a0_13 = a1_13 then (if a0_14 = a1_14 then ((laws_eqPodS.f l0_15 l1_15).bind fun t392 => (if t392 = true then ((laws_eqSeriesS.f l0_16 l1_16).bind fun t393 => (if t393 = true then ((laws_eqNoteS.f l0_17 l1_17).bind fun t394 => (if t394 = true then ((laws_eqMoveS.f l0_18 l1_18).bind fun t395 => (if t395 = true then (if a0_19 = a1_19 then (if a0_20 = a1_20 then (some true) else (some false)) else (some false)) else (some false))) else (some false))) else (some false))) else (some false))) else (some false)) else (some false)) else (some false)) else (some false))) = some r := h
 clear h
 replace H := Option.bind_eq_some_iff.mp H
 obtain ⟨t391, A30, H⟩ := H
 replace H : (if t391 = true then (if a0_12 = a1_12 then (if a0_13 = a1_13 then (if a0_14 = a1_14 then ((laws_eqPodS.f l0_15 l1_15).bind fun t392 => (if t392 = true then ((laws_eqSeriesS.f l0_16 l1_16).bind fun t393 => (if t393 = true then ((laws_eqNoteS.f l0_17 l1_17).bind fun t394 => (if t394 = true then ((laws_eqMoveS.f l0_18 l1_18).bind fun t395 => (if t395 = true then (if a0_19 = a1_19 then (if a0_20 = a1_20 then (some true) else (some false)) else (some false)) else (some false))) else (some false))) else (some false))) else (some false))) else (some false)) else (some false)) else (some false)) else (some false)) = some r := H
 have A3 := ak_ A30
 clear A30
 by_cases c4 : t391 = true
 ·subst c4
  rw [if_pos rfl] at H
  by_cases c5 : a0_12 = a1_12
  ·rw [if_pos c5] at H
   have c5b0 : (a0_12 == a1_12) = true := beq_iff_eq.mpr c5
   have c5b1 : (a0_12 != a1_12) = false := bne_eq_false_iff_eq.mpr c5
   clear c5
   by_cases c6 : a0_13 = a1_13
   ·rw [if_pos c6] at H
    have c6b0 : (a0_13 == a1_13) = true := beq_iff_eq.mpr c6
    have c6b1 : (a0_13 != a1_13) = false := bne_eq_false_iff_eq.mpr c6
    clear c6
    by_cases c7 : a0_14 = a1_14
    ·rw [if_pos c7] at H
     have c7b0 : (a0_14 == a1_14) = true := beq_iff_eq.mpr c7
     have c7b1 : (a0_14 != a1_14) = false := bne_eq_false_iff_eq.mpr c7
     clear c7
     replace H := Option.bind_eq_some_iff.mp H
     obtain ⟨t392, A80, H⟩ := H
     replace H : (if t392 = true then ((laws_eqSeriesS.f l0_16 l1_16).bind fun t393 => (if t393 = true then ((laws_eqNoteS.f l0_17 l1_17).bind fun t394 => (if t394 = true then ((laws_eqMoveS.f l0_18 l1_18).bind fun t395 => (if t395 = true then (if a0_19 = a1_19 then (if a0_20 = a1_20 then (some true) else (some false)) else (some false)) else (some false))) else (some false))) else (some false))) else (some false)) = some r := H
     have A8 := ak_ A80
     clear A80
     by_cases c9 : t392 = true
     ·subst c9
      rw [if_pos rfl] at H
      replace H := Option.bind_eq_some_iff.mp H
      obtain ⟨t393, A100, H⟩ := H
      replace H : (if t393 = true then ((laws_eqNoteS.f l0_17 l1_17).bind fun t394 => (if t394 = true then ((laws_eqMoveS.f l0_18 l1_18).bind fun t395 => (if t395 = true then (if a0_19 = a1_19 then (if a0_20 = a1_20 then (some true) else (some false)) else (some false)) else (some false))) else (some false))) else (some false)) = some r := H
      have A10 := ak_ A100
      clear A100
      by_cases c11 : t393 = true
      ·subst c11
       rw [if_pos rfl] at H
       replace H := Option.bind_eq_some_iff.mp H
       obtain ⟨t394, A120, H⟩ := H
       replace H : (if t394 = true then ((laws_eqMoveS.f l0_18 l1_18).bind fun t395 => (if t395 = true then (if a0_19 = a1_19 then (if a0_20 = a1_20 then (some true) else (some false)) else (some false)) else (some false))) else (some false)) = some r := H
       have A12 := ak_ A120
       clear A120
       by_cases c13 : t394 = true
       ·subst c13
        rw [if_pos rfl] at H
        replace H := Option.bind_eq_some_iff.mp H
        obtain ⟨t395, A140, H⟩ := H
        replace H : (if t395 = true then (if a0_19 = a1_19 then (if a0_20 = a1_20 then (some true) else (some false)) else (some false)) else (some false)) = some r := H
        have A14 := ak_ A140
        clear A140
        by_cases c15 : t395 = true
        ·subst c15
         rw [if_pos rfl] at H
         by_cases c16 : a0_19 = a1_19
         ·rw [if_pos c16] at H
          have c16b0 : (a0_19 == a1_19) = true := beq_iff_eq.mpr c16
          have c16b1 : (a0_19 != a1_19) = false := bne_eq_false_iff_eq.mpr c16
          clear c16
          by_cases c17 : a0_20 = a1_20
          ·rw [if_pos c17] at H
           have c17b0 : (a0_20 == a1_20) = true := beq_iff_eq.mpr c17
           have c17b1 : (a0_20 != a1_20) = false := bne_eq_false_iff_eq.mpr c17
           clear c17
           obtain rfl := Option.some.inj H
           go_enter Try.func24, Try.ntmps24
           go_wp2_with (first | ((with_reducible refine gate_dst (N := 2) rfl ?_); refine be_ (N := 2) (cs := #[.int .i64 a0_0, .int .i64 a0_1, .int .i64 a0_2, .slice A0_3 l0_3.length c0_3, .slice A0_4 l0_4.length c0_4, .int .i64 a0_5, .int .i64 a0_6, .slice A0_7 l0_7.length c0_7, .int .i64 a0_8, .int .i64 a0_9, .int .i64 a0_10, .int .i64 a0_11, .int .i64 a0_12, .int .i64 a0_13, .int .i64 a0_14, .slice A0_15 l0_15.length c0_15, .slice A0_16 l0_16.length c0_16, .slice A0_17 l0_17.length c0_17, .slice A0_18 l0_18.length c0_18, .int .i64 a0_19, .int .i64 a0_20]) (t := 62) ?_; intro gb389 hg w18 hbox hb; have BK389 := ak_ hbox; have GW389 := ak_ ((gs_ hg : w.heap.size ≤ gb389)); have GE389 := ak_ ((gs_ hg : w.heap.size ≤ gb389)); replace HB := ak_ (below_step hb_ hb); clear hb hbox hg) | ((with_reducible refine gate_dst (N := 3) rfl ?_); refine be_ (N := 3) (cs := #[.int .i64 a1_0, .int .i64 a1_1, .int .i64 a1_2, .slice A1_3 l1_3.length c1_3, .slice A1_4 l1_4.length c1_4, .int .i64 a1_5, .int .i64 a1_6, .slice A1_7 l1_7.length c1_7, .int .i64 a1_8, .int .i64 a1_9, .int .i64 a1_10, .int .i64 a1_11, .int .i64 a1_12, .int .i64 a1_13, .int .i64 a1_14, .slice A1_15 l1_15.length c1_15, .slice A1_16 l1_16.length c1_16, .slice A1_17 l1_17.length c1_17, .slice A1_18 l1_18.length c1_18, .int .i64 a1_19, .int .i64 a1_20]) (t := 62) ?_; intro gb390 hg w19 hbox hb; have BK390 := ak_ hbox; have GW390 := ak_ ((gs_ hg : w.heap.size ≤ gb390)); have GE390 := ak_ ((gs_ hg : w.heap.size ≤ gb390)); replace HB := ak_ (below_step hb_ hb); have NB389_390 := ak_ (nl_ hg (bk_ BK389)); have NB390_389 := ak_ (ng_ hg (bk_ BK389)); replace BK389 := ak_ (blk_below (bk_ BK389) hb); clear hb hbox hg; have hnb20 := NB389_390.out; have hnc20 := NB390_389.out; obtain ⟨hcz21_0, hcz21_1, hcz21_2, hcz21_3, hcz21_4, hcz21_5, hcz21_6, hcz21_7, hcz21_8, hcz21_9, hcz21_10, hcz21_11, hcz21_12, hcz21_13, hcz21_14, hcz21_15, hcz21_16, hcz21_17, hcz21_18, hcz21_19, hcz21_20, hfz21_0, hfz21_1, hfz21_2, hfz21_3, hfz21_4, hfz21_5, hfz21_6, hfz21_7, hfz21_8, hfz21_9, hfz21_10, hfz21_11, hfz21_12, hfz21_13, hfz21_14, hfz21_15, hfz21_16, hfz21_17, hfz21_18, hfz21_19, hfz21_20⟩ := bc21_ BK389.out; obtain ⟨hcz22_0, hcz22_1, hcz22_2, hcz22_3, hcz22_4, hcz22_5, hcz22_6, hcz22_7, hcz22_8, hcz22_9, hcz22_10, hcz22_11, hcz22_12, hcz22_13, hcz22_14, hcz22_15, hcz22_16, hcz22_17, hcz22_18, hcz22_19, hcz22_20, hfz22_0, hfz22_1, hfz22_2, hfz22_3, hfz22_4, hfz22_5, hfz22_6, hfz22_7, hfz22_8, hfz22_9, hfz22_10, hfz22_11, hfz22_12, hfz22_13, hfz22_14, hfz22_15, hfz22_16, hfz22_17, hfz22_18, hfz22_19, hfz22_20⟩ := bc21_ BK390.out) | ((with_reducible refine gate_callee (f := 12) rfl ?_); refine goesL_ (some 9) rfl rfl Try.func12 (by kernel_rfl) rfl #[.agg #[.int .i64 a0_0, .int .i64 a0_1, .int .i64 a0_2, .slice A0_3 l0_3.length c0_3, .slice A0_4 l0_4.length c0_4, .int .i64 a0_5, .int .i64 a0_6, .slice A0_7 l0_7.length c0_7, .int .i64 a0_8, .int .i64 a0_9, .int .i64 a0_10, .int .i64 a0_11], .agg #[.int .i64 a1_0, .int .i64 a1_1, .int .i64 a1_2, .slice A1_3 l1_3.length c1_3, .slice A1_4 l1_4.length c1_4, .int .i64 a1_5, .int .i64 a1_6, .slice A1_7 l1_7.length c1_7, .int .i64 a1_8, .int .i64 a1_9, .int .i64 a1_10, .int .i64 a1_11]] rfl (ma2_ rfl rfl) ?_; (with_reducible refine (laws_eqSetup.calls k a0_0 a0_1 a0_2 _ _ l0_3 _ _ l0_4 a0_5 a0_6 _ _ l0_7 a0_8 a0_9 a0_10 a0_11 a1_0 a1_1 a1_2 _ _ l1_3 _ _ l1_4 a1_5 a1_6 _ _ l1_7 a1_8 a1_9 a1_10 a1_11 true ⟨rfl⟩ _ ?side1 ?side2 ?side3 ?side4 ?side5 ?side6 ?side7 ?side8 ?side9 ?side10 ?side11 ?side12 A3.out).mono ?_); (case side1 => exact kc_ HR0_3); (case side2 => exact HC0_3.out); (case side3 => exact kc_ HR0_4); (case side4 => exact HC0_4.out); (case side5 => exact kc_ HR0_7); (case side6 => exact HC0_7.out); (case side7 => exact kc_ HR1_3); (case side8 => exact HC1_3.out); (case side9 => exact kc_ HR1_4); (case side10 => exact HC1_4.out); (case side11 => exact kc_ HR1_7); (case side12 => exact HC1_7.out); rintro e w23 ⟨rfl, hb⟩; refine ⟨_, rfl, ?_⟩; replace BK389 := ak_ (blk_below (bk_ BK389) hb); replace BK390 := ak_ (blk_below (bk_ BK390) hb); replace HB := ak_ (below_step hb_ hb); (try clear hb); obtain ⟨hcz24_0, hcz24_1, hcz24_2, hcz24_3, hcz24_4, hcz24_5, hcz24_6, hcz24_7, hcz24_8, hcz24_9, hcz24_10, hcz24_11, hcz24_12, hcz24_13, hcz24_14, hcz24_15, hcz24_16, hcz24_17, hcz24_18, hcz24_19, hcz24_20, hfz24_0, hfz24_1, hfz24_2, hfz24_3, hfz24_4, hfz24_5, hfz24_6, hfz24_7, hfz24_8, hfz24_9, hfz24_10, hfz24_11, hfz24_12, hfz24_13, hfz24_14, hfz24_15, hfz24_16, hfz24_17, hfz24_18, hfz24_19, hfz24_20⟩ := bc21_ BK389.out; obtain ⟨hcz25_0, hcz25_1, hcz25_2, hcz25_3, hcz25_4, hcz25_5, hcz25_6, hcz25_7, hcz25_8, hcz25_9, hcz25_10, hcz25_11, hcz25_12, hcz25_13, hcz25_14, hcz25_15, hcz25_16, hcz25_17, hcz25_18, hcz25_19, hcz25_20, hfz25_0, hfz25_1, hfz25_2, hfz25_3, hfz25_4, hfz25_5, hfz25_6, hfz25_7, hfz25_8, hfz25_9, hfz25_10, hfz25_11, hfz25_12, hfz25_13, hfz25_14, hfz25_15, hfz25_16, hfz25_17, hfz25_18, hfz25_19, hfz25_20⟩ := bc21_ BK390.out) | ((with_reducible refine gate_callee (f := 53) rfl ?_); refine goesL_ (some 30) rfl rfl Try.func53 (by kernel_rfl) rfl #[.slice A0_15 l0_15.length c0_15, .slice A1_15 l1_15.length c1_15] rfl (ma2_ rfl rfl) ?_; (with_reducible refine (laws_eqPodS.calls _ _ l0_15 _ _ l1_15 true _ ?side1 ?side2 ?side3 ?side4 A8.out).mono ?_); (case side1 => exact kc_ HR0_15); (case side2 => exact HC0_15.out); (case side3 => exact kc_ HR1_15); (case side4 => exact HC1_15.out); rintro e w26 ⟨rfl, hb⟩; refine ⟨_, rfl, ?_⟩; replace BK389 := ak_ (blk_below (bk_ BK389) hb); replace BK390 := ak_ (blk_below (bk_ BK390) hb); replace HB := ak_ (below_step hb_ hb); (try clear hb); obtain ⟨hcz27_0, hcz27_1, hcz27_2, hcz27_3, hcz27_4, hcz27_5, hcz27_6, hcz27_7, hcz27_8, hcz27_9, hcz27_10, hcz27_11, hcz27_12, hcz27_13, hcz27_14, hcz27_15, hcz27_16, hcz27_17, hcz27_18, hcz27_19, hcz27_20, hfz27_0, hfz27_1, hfz27_2, hfz27_3, hfz27_4, hfz27_5, hfz27_6, hfz27_7, hfz27_8, hfz27_9, hfz27_10, hfz27_11, hfz27_12, hfz27_13, hfz27_14, hfz27_15, hfz27_16, hfz27_17, hfz27_18, hfz27_19, hfz27_20⟩ := bc21_ BK389.out; obtain ⟨hcz28_0, hcz28_1, hcz28_2, hcz28_3, hcz28_4, hcz28_5, hcz28_6, hcz28_7, hcz28_8, hcz28_9, hcz28_10, hcz28_11, hcz28_12, hcz28_13, hcz28_14, hcz28_15, hcz28_16, hcz28_17, hcz28_18, hcz28_19, hcz28_20, hfz28_0, hfz28_1, hfz28_2, hfz28_3, hfz28_4, hfz28_5, hfz28_6, hfz28_7, hfz28_8, hfz28_9, hfz28_10, hfz28_11, hfz28_12, hfz28_13, hfz28_14, hfz28_15, hfz28_16, hfz28_17, hfz28_18, hfz28_19, hfz28_20⟩ := bc21_ BK390.out) | ((with_reducible refine gate_callee (f := 54) rfl ?_); refine goesL_ (some 36) rfl rfl Try.func54 (by kernel_rfl) rfl #[.slice A0_16 l0_16.length c0_16, .slice A1_16 l1_16.length c1_16] rfl (ma2_ rfl rfl) ?_; (with_reducible refine (laws_eqSeriesS.calls _ _ l0_16 _ _ l1_16 true _ ?side1 ?side2 ?side3 ?side4 A10.out).mono ?_); (case side1 => exact kc_ HR0_16); (case side2 => exact HC0_16.out); (case side3 => exact kc_ HR1_16); (case side4 => exact HC1_16.out); rintro e w29 ⟨rfl, hb⟩; refine ⟨_, rfl, ?_⟩; replace BK389 := ak_ (blk_below (bk_ BK389) hb); replace BK390 := ak_ (blk_below (bk_ BK390) hb); replace HB := ak_ (below_step hb_ hb); (try clear hb); obtain ⟨hcz30_0, hcz30_1, hcz30_2, hcz30_3, hcz30_4, hcz30_5, hcz30_6, hcz30_7, hcz30_8, hcz30_9, hcz30_10, hcz30_11, hcz30_12, hcz30_13, hcz30_14, hcz30_15, hcz30_16, hcz30_17, hcz30_18, hcz30_19, hcz30_20, hfz30_0, hfz30_1, hfz30_2, hfz30_3, hfz30_4, hfz30_5, hfz30_6, hfz30_7, hfz30_8, hfz30_9, hfz30_10, hfz30_11, hfz30_12, hfz30_13, hfz30_14, hfz30_15, hfz30_16, hfz30_17, hfz30_18, hfz30_19, hfz30_20⟩ := bc21_ BK389.out; obtain ⟨hcz31_0, hcz31_1, hcz31_2, hcz31_3, hcz31_4, hcz31_5, hcz31_6, hcz31_7, hcz31_8, hcz31_9, hcz31_10, hcz31_11, hcz31_12, hcz31_13, hcz31_14, hcz31_15, hcz31_16, hcz31_17, hcz31_18, hcz31_19, hcz31_20, hfz31_0, hfz31_1, hfz31_2, hfz31_3, hfz31_4, hfz31_5, hfz31_6, hfz31_7, hfz31_8, hfz31_9, hfz31_10, hfz31_11, hfz31_12, hfz31_13, hfz31_14, hfz31_15, hfz31_16, hfz31_17, hfz31_18, hfz31_19, hfz31_20⟩ := bc21_ BK390.out) | ((with_reducible refine gate_callee (f := 55) rfl ?_); refine goesL_ (some 42) rfl rfl Try.func55 (by kernel_rfl) rfl #[.slice A0_17 l0_17.length c0_17, .slice A1_17 l1_17.length c1_17] rfl (ma2_ rfl rfl) ?_; (with_reducible refine (laws_eqNoteS.calls _ _ l0_17 _ _ l1_17 true _ ?side1 ?side2 ?side3 ?side4 A12.out).mono ?_); (case side1 => exact kc_ HR0_17); (case side2 => exact HC0_17.out); (case side3 => exact kc_ HR1_17); (case side4 => exact HC1_17.out); rintro e w32 ⟨rfl, hb⟩; refine ⟨_, rfl, ?_⟩; replace BK389 := ak_ (blk_below (bk_ BK389) hb); replace BK390 := ak_ (blk_below (bk_ BK390) hb); replace HB := ak_ (below_step hb_ hb); (try clear hb); obtain ⟨hcz33_0, hcz33_1, hcz33_2, hcz33_3, hcz33_4, hcz33_5, hcz33_6, hcz33_7, hcz33_8, hcz33_9, hcz33_10, hcz33_11, hcz33_12, hcz33_13, hcz33_14, hcz33_15, hcz33_16, hcz33_17, hcz33_18, hcz33_19, hcz33_20, hfz33_0, hfz33_1, hfz33_2, hfz33_3, hfz33_4, hfz33_5, hfz33_6, hfz33_7, hfz33_8, hfz33_9, hfz33_10, hfz33_11, hfz33_12, hfz33_13, hfz33_14, hfz33_15, hfz33_16, hfz33_17, hfz33_18, hfz33_19, hfz33_20⟩ := bc21_ BK389.out; obtain ⟨hcz34_0, hcz34_1, hcz34_2, hcz34_3, hcz34_4, hcz34_5, hcz34_6, hcz34_7, hcz34_8, hcz34_9, hcz34_10, hcz34_11, hcz34_12, hcz34_13, hcz34_14, hcz34_15, hcz34_16, hcz34_17, hcz34_18, hcz34_19, hcz34_20, hfz34_0, hfz34_1, hfz34_2, hfz34_3, hfz34_4, hfz34_5, hfz34_6, hfz34_7, hfz34_8, hfz34_9, hfz34_10, hfz34_11, hfz34_12, hfz34_13, hfz34_14, hfz34_15, hfz34_16, hfz34_17, hfz34_18, hfz34_19, hfz34_20⟩ := bc21_ BK390.out) | ((with_reducible refine gate_callee (f := 56) rfl ?_); refine goesL_ (some 48) rfl rfl Try.func56 (by kernel_rfl) rfl #[.slice A0_18 l0_18.length c0_18, .slice A1_18 l1_18.length c1_18] rfl (ma2_ rfl rfl) ?_; (with_reducible refine (laws_eqMoveS.calls _ _ l0_18 _ _ l1_18 true _ ?side1 ?side2 ?side3 ?side4 A14.out).mono ?_); (case side1 => exact kc_ HR0_18); (case side2 => exact HC0_18.out); (case side3 => exact kc_ HR1_18); (case side4 => exact HC1_18.out); rintro e w35 ⟨rfl, hb⟩; refine ⟨_, rfl, ?_⟩; replace BK389 := ak_ (blk_below (bk_ BK389) hb); replace BK390 := ak_ (blk_below (bk_ BK390) hb); replace HB := ak_ (below_step hb_ hb); (try clear hb); obtain ⟨hcz36_0, hcz36_1, hcz36_2, hcz36_3, hcz36_4, hcz36_5, hcz36_6, hcz36_7, hcz36_8, hcz36_9, hcz36_10, hcz36_11, hcz36_12, hcz36_13, hcz36_14, hcz36_15, hcz36_16, hcz36_17, hcz36_18, hcz36_19, hcz36_20, hfz36_0, hfz36_1, hfz36_2, hfz36_3, hfz36_4, hfz36_5, hfz36_6, hfz36_7, hfz36_8, hfz36_9, hfz36_10, hfz36_11, hfz36_12, hfz36_13, hfz36_14, hfz36_15, hfz36_16, hfz36_17, hfz36_18, hfz36_19, hfz36_20⟩ := bc21_ BK389.out; obtain ⟨hcz37_0, hcz37_1, hcz37_2, hcz37_3, hcz37_4, hcz37_5, hcz37_6, hcz37_7, hcz37_8, hcz37_9, hcz37_10, hcz37_11, hcz37_12, hcz37_13, hcz37_14, hcz37_15, hcz37_16, hcz37_17, hcz37_18, hcz37_19, hcz37_20, hfz37_0, hfz37_1, hfz37_2, hfz37_3, hfz37_4, hfz37_5, hfz37_6, hfz37_7, hfz37_8, hfz37_9, hfz37_10, hfz37_11, hfz37_12, hfz37_13, hfz37_14, hfz37_15, hfz37_16, hfz37_17, hfz37_18, hfz37_19, hfz37_20⟩ := bc21_ BK390.out))
           go_ret
           exact ⟨ew_, hb_⟩
          ·rw [if_neg c17] at H
           have c17b0 : (a0_20 == a1_20) = false := beq_eq_false_iff_ne.mpr c17
           have c17b1 : (a0_20 != a1_20) = true := bne_iff_ne.mpr c17
           exact absurd (Option.some.inj H) (by rw [hrT.out]; decide)
         ·rw [if_neg c16] at H
          have c16b0 : (a0_19 == a1_19) = false := beq_eq_false_iff_ne.mpr c16
          have c16b1 : (a0_19 != a1_19) = true := bne_iff_ne.mpr c16
          exact absurd (Option.some.inj H) (by rw [hrT.out]; decide)
        ·replace c15 := Bool.eq_false_iff.mpr c15
         subst c15
         rw [if_neg (show ¬ (false = true) by decide)] at H
         exact absurd (Option.some.inj H) (by rw [hrT.out]; decide)
       ·replace c13 := Bool.eq_false_iff.mpr c13
        subst c13
        rw [if_neg (show ¬ (false = true) by decide)] at H
        exact absurd (Option.some.inj H) (by rw [hrT.out]; decide)
      ·replace c11 := Bool.eq_false_iff.mpr c11
       subst c11
       rw [if_neg (show ¬ (false = true) by decide)] at H
       exact absurd (Option.some.inj H) (by rw [hrT.out]; decide)
     ·replace c9 := Bool.eq_false_iff.mpr c9
      subst c9
      rw [if_neg (show ¬ (false = true) by decide)] at H
      exact absurd (Option.some.inj H) (by rw [hrT.out]; decide)
    ·rw [if_neg c7] at H
     have c7b0 : (a0_14 == a1_14) = false := beq_eq_false_iff_ne.mpr c7
     have c7b1 : (a0_14 != a1_14) = true := bne_iff_ne.mpr c7
     exact absurd (Option.some.inj H) (by rw [hrT.out]; decide)
   ·rw [if_neg c6] at H
    have c6b0 : (a0_13 == a1_13) = false := beq_eq_false_iff_ne.mpr c6
    have c6b1 : (a0_13 != a1_13) = true := bne_iff_ne.mpr c6
    exact absurd (Option.some.inj H) (by rw [hrT.out]; decide)
  ·rw [if_neg c5] at H
   have c5b0 : (a0_12 == a1_12) = false := beq_eq_false_iff_ne.mpr c5
   have c5b1 : (a0_12 != a1_12) = true := bne_iff_ne.mpr c5
   exact absurd (Option.some.inj H) (by rw [hrT.out]; decide)
 ·replace c4 := Bool.eq_false_iff.mpr c4
  subst c4
  rw [if_neg (show ¬ (false = true) by decide)] at H
  exact absurd (Option.some.inj H) (by rw [hrT.out]; decide)

end Go.Proofs.Ytblfoelddakelaa.H
