-- PRINTED by print.py (a twelfth state) out of the translation. Not trusted: Lean checks it.
import Derived.Test.YtblfoelddakelaaH0
import Derived.Test.YtblfoelddakelaaH7
namespace Go.Proofs.Ytblfoelddakelaa.H
open Go.RowKit Go.Proofs.YtblfoelddakelaaW.PrintWords Go.Proofs.YtblfoelddakelaaW.PrintLast Go.Proofs.YtblfoelddakelaaW.PrintMore
attribute [local go_sem] max2_int min2_int max_two min_two max_three min_three max_four min_four   -- for this text's walks alone
set_option linter.unusedVariables false
set_option linter.unusedSimpArgs false

/-! ### laws_heldGoalS: function 34 -/
def laws_heldGoalS.l0 : Nat → List (S49) → Int → Int → Option (Int)
  | 0, _, _, _ => none
  | k + 1, x0, x1, x5 => if x5 < (x0.length : Int) then (if 0 ≤ x5 then ((laws_markText.f k x1).bind fun t406 => (if ((rd_T49 x0 x5).f0).toList = t406.toList then (if ((rd_T49 x0 x5).f1) = (wrap64 (x1 + 1)) then (if ((rd_T49 x0 x5).f2) = (wrap64 ((wrap64 (x1 + 1)) + 1)) then (laws_heldGoalS.l0 k x0 (wrap64 ((wrap64 ((wrap64 (x1 + 1)) + 1)) + 1)) (wrap64 (x5 + 1))) else (some (-1))) else (some (-1))) else (some (-1)))) else (none)) else (some x1)
def laws_heldGoalS.f (k : Nat) (l0 : List (S49)) (a1 : Int) : Option (Int) := laws_heldGoalS.l0 k l0 a1 0
theorem laws_heldGoalS.mono_l : ∀ k, (∀ y0 y1 y2, LeO (laws_heldGoalS.l0 k y0 y1 y2) (laws_heldGoalS.l0 (k + 1) y0 y1 y2))
  | 0 => fun _ _ _ r h => by simp [laws_heldGoalS.l0] at h
  | k + 1 => by
    have ih0 := laws_heldGoalS.mono_l k
    · intro y0 y1 y2
      unfold laws_heldGoalS.l0
      repeat' with_reducible first | exact ih0 _ _ _ | exact laws_markText.mono _ _ | exact LeO.refl _ | exact LeO.none _ | refine LeO.ite ?_ ?_ | refine LeO.bind ?_ (fun _ => ?_)
theorem laws_heldGoalS.mono : ∀ a0 a1 k, LeO (laws_heldGoalS.f k a0 a1) (laws_heldGoalS.f (k + 1) a0 a1) := by
  intro a0 a1 k
  have ih0 := laws_heldGoalS.mono_l k
  unfold laws_heldGoalS.f
  repeat' with_reducible first | exact ih0 _ _ _ | exact laws_markText.mono _ _ | exact LeO.refl _ | exact LeO.none _ | refine LeO.ite ?_ ?_ | refine LeO.bind ?_ (fun _ => ?_)
def laws_heldGoalS.T4 : Bool × List (List Nat × List Nat) := (true, [([], []), ([], []), ([0, 1], [0, 1]), ([2], [2]), ([3], [3]), ([], []), ([5], [5]), ([4, 6], [4, 6])])
def laws_heldGoalS.B4 : List Nat := [0, 0, 3, 7, 15, 0, 32, 127]
theorem laws_heldGoalS.tab4 : rtab .any (opsOf Try.f34 4) = laws_heldGoalS.T4 := by kernel_rfl
theorem laws_heldGoalS.bits4 : waitsOk laws_heldGoalS.T4.2 laws_heldGoalS.B4 = true := by kernel_rfl
abbrev laws_heldGoalS.d0 : Array Bool := #[false, false, false, false, false, false, false, false]
abbrev laws_heldGoalS.d1 : Array Bool := #[true, false, false, false, false, false, false, false]
abbrev laws_heldGoalS.d2 : Array Bool := #[true, true, false, false, false, false, false, false]
abbrev laws_heldGoalS.d3 : Array Bool := #[true, true, true, false, false, false, false, false]
abbrev laws_heldGoalS.d4 : Array Bool := #[true, true, true, true, false, false, false, false]
abbrev laws_heldGoalS.d5 : Array Bool := #[true, true, true, true, false, true, false, false]
abbrev laws_heldGoalS.d6 : Array Bool := #[true, true, true, true, true, true, false, false]
abbrev laws_heldGoalS.d7 : Array Bool := #[true, true, true, true, true, true, true, false]
abbrev laws_heldGoalS.d8 : Array Bool := #[true, true, true, true, true, true, true, true]
set_option maxHeartbeats 8000000 in
set_option maxRecDepth 100000 in
theorem laws_heldGoalS.calls (k : Nat) (A0 : Option Addr) (c0 : Nat) (l0 : List (S49)) (a1 : Int) (r : Int) (w : World) (hr0 : Kd.C k49 w A0 l0.length l0) (hc0 : l0.length ≤ c0) (h : laws_heldGoalS.f k l0 a1 = some r) :
  Calls Try.prog 34 #[.slice A0 l0.length c0, .int .i64 a1] w fun e w' => e = .returned (.int .i64 r) ∧ Below w.heap.size w w' := by
 have HR0 := ak_ hr0
 have HC0 := ak_ hc0
 clear hr0 hc0
 have HB := ak_ (Below.refl w.heap.size w)
 have H : (laws_heldGoalS.l0 k l0 a1 0) = some r := h
 clear h
 have H' := ak_ H
 clear H
 go_enter Try.func34, Try.ntmps34
 go_wp2
 go_loopg [1, 5] k (fun kq v1 v5 w' => ∃ (x1_1 : Int) (x5_1 : Int), v1 = .int .i64 x1_1 ∧ v5 = .int .i64 x5_1 ∧ Aside0 (laws_heldGoalS.l0 kq l0 x1_1 x5_1 = some r) ∧ Aside0 (kq ≤ k) ∧ Aside0 (Below w.heap.size w w'))
 case atStart => exact ⟨(a1), (0), (by first | rfl | (simp; done) | (simp [*]; done)), (by first | rfl | (simp; done) | (simp [*]; done)), H', ⟨Nat.le_refl _⟩, ⟨hb_⟩⟩
 case round =>
  clear H'
  try clear p2
  obtain ⟨x1_1, x5_1, rfl, rfl, HA, HK1, HB⟩ := hrel
  cases gk with
  | zero => exact absurd HA.out (by simp [laws_heldGoalS.l0])
  | succ k1 =>
   have H := HA.out
   clear HA
   simp only [laws_heldGoalS.l0] at H
   by_cases c3 : x5_1 < (l0.length : Int)
   ·rw [if_pos c3] at H
    have c3b0 : decide (x5_1 < (l0.length : Int)) = true := decide_eq_true c3
    clear c3
    by_cases c4 : 0 ≤ x5_1
    ·rw [if_pos c4] at H
     have c4b0 : decide (0 ≤ x5_1) = true := decide_eq_true c4
     clear c4
     replace H := Option.bind_eq_some_iff.mp H
     obtain ⟨t406, A50, H⟩ := H
     replace H : (if ((rd_T49 l0 x5_1).f0).toList = t406.toList then (if ((rd_T49 l0 x5_1).f1) = (wrap64 (x1_1 + 1)) then (if ((rd_T49 l0 x5_1).f2) = (wrap64 ((wrap64 (x1_1 + 1)) + 1)) then (laws_heldGoalS.l0 k1 l0 (wrap64 ((wrap64 ((wrap64 (x1_1 + 1)) + 1)) + 1)) (wrap64 (x5_1 + 1))) else (some (-1))) else (some (-1))) else (some (-1))) = some r := H
     have A5 := ak_ A50
     clear A50
     by_cases c6 : ((rd_T49 l0 x5_1).f0).toList = t406.toList
     ·rw [if_pos c6] at H
      have c6b0 : (((rd_T49 l0 x5_1).f0).toList == t406.toList) = true := beq_iff_eq.mpr c6
      have c6b1 : (((rd_T49 l0 x5_1).f0).toList != t406.toList) = false := bne_eq_false_iff_eq.mpr c6
      clear c6
      by_cases c7 : ((rd_T49 l0 x5_1).f1) = (wrap64 (x1_1 + 1))
      ·rw [if_pos c7] at H
       have c7b0 : (((rd_T49 l0 x5_1).f1) == (wrap64 (x1_1 + 1))) = true := beq_iff_eq.mpr c7
       have c7b1 : (((rd_T49 l0 x5_1).f1) != (wrap64 (x1_1 + 1))) = false := bne_eq_false_iff_eq.mpr c7
       clear c7
       by_cases c8 : ((rd_T49 l0 x5_1).f2) = (wrap64 ((wrap64 (x1_1 + 1)) + 1))
       ·rw [if_pos c8] at H
        have c8b0 : (((rd_T49 l0 x5_1).f2) == (wrap64 ((wrap64 (x1_1 + 1)) + 1))) = true := beq_iff_eq.mpr c8
        have c8b1 : (((rd_T49 l0 x5_1).f2) != (wrap64 ((wrap64 (x1_1 + 1)) + 1))) = false := bne_eq_false_iff_eq.mpr c8
        clear c8
        have H' := ak_ H
        clear H
        try go_wp2
        replace HB := ak_ (below_drew1 HB.out)
        have p405 : 0 ≤ (x5_1 : Int) := of_decide_eq_true (by first | (with_reducible assumption) | assumption)
        have q405 : x5_1 < (l0.length : Int) := of_decide_eq_true (by first | (with_reducible assumption) | assumption)
        obtain ⟨ad405, e405, hx405_0, hx405_1, hx405_2⟩ := at_T49 HR0.out x5_1 p405 q405
        have hw405_2 := hx405_2
        have hw405_1 := hx405_1
        have hw405_0 := hx405_0
        cases e405
        replace hx405_0 := cx_ HB hx405_0
        replace hx405_1 := cx_ HB hx405_1
        replace hx405_2 := cx_ HB hx405_2
        replace p405 := eq_true p405
        replace q405 := eq_true q405
        refine start_ (n := 8) (S := fun w' => w'.cell? (ad405.add ((x5_1).toNat * 3)) = some (.string ((rd_T49 l0 x5_1).f0)) ∧ w'.cell? ⟨(ad405.add ((x5_1).toNat * 3)).block, (ad405.add ((x5_1).toNat * 3)).off + 1, none⟩ = some (.int .i64 ((rd_T49 l0 x5_1).f1)) ∧ w'.cell? ⟨(ad405.add ((x5_1).toNat * 3)).block, (ad405.add ((x5_1).toNat * 3)).off + 2, none⟩ = some (.int .i64 ((rd_T49 l0 x5_1).f2))) (ds := []) laws_heldGoalS.d0 (by kernel_rfl) rfl rfl ⟨((HB.out.cell (World.block_lt_of_cell? w _ hw405_0)).trans hw405_0), ((HB.out.cell (World.block_lt_of_cell? w _ hw405_1)).trans hw405_1), ((HB.out.cell (World.block_lt_of_cell? w _ hw405_2)).trans hw405_2)⟩ (fun hHeld => ?_); refine with_tabW laws_heldGoalS.tab4 laws_heldGoalS.bits4 (fun HT_ HW_ => ?_)
        generalize wr.drew = w9 at HB hx405_0 hx405_1 hx405_2 hHeld ⊢
        refine p1_ (i := 0) (N := some 12) laws_heldGoalS.d1 (any_of HT_.out (by kernel_rfl)) ?_
        refine p1_ (i := 1) (N := some 13) laws_heldGoalS.d2 (any_of HT_.out (by kernel_rfl)) ?_
        refine p1_ (i := 2) (N := some 14) laws_heldGoalS.d3 (any_of HT_.out (by kernel_rfl)) ?_
        refine p1_ (i := 3) (N := some 15) laws_heldGoalS.d4 (any_of HT_.out (by kernel_rfl)) ?_
        refine p1_ (i := 5) (N := some 17) laws_heldGoalS.d5 (any_of HT_.out (by kernel_rfl)) ?_
        refine take_ (i := 4) (N := some 16) (v := ?_) (a' := ?_) laws_heldGoalS.d6 rfl rfl (take_ofW HT_.out HW_.out (by kernel_rfl)) (fun _ _ _ h => h) (Or.inl ⟨by rfl, ?_⟩) hHeld ?_ ?_; rotate_left; (rintro w' ⟨s0, s1, s2⟩; go_simp; with_reducible rfl); rotate_left; (simp only [Act.put, List.setIfInBounds_toArray, List.set_cons_zero, List.set_cons_succ, i64_w, i32_w]; rfl)
        refine one_ (i := 6) (N := some 18) laws_heldGoalS.d7 rfl rfl (one_of HT_.out (by kernel_rfl)) (by decide) (fun K hK => ?_)
        refine goes_ Try.func66 (by kernel_rfl) rfl #[.int .i64 x1_1] (by rfl) rfl rfl (ma1_ rfl) ?_
        with_reducible refine (laws_markText.calls k1 x1_1 t406 _ A5.out).mono ?_
        rintro e w10 ⟨rfl, hb⟩
        refine ⟨_, rfl, ?_⟩
        replace HB := ak_ (below_step hb_ hb)
        (try clear hb)
        (try clear hb2)
        (try clear hk)
        (try clear hi)
        refine hK.out _ _ ⟨((HB.out.cell (World.block_lt_of_cell? w _ hw405_0)).trans hw405_0), ((HB.out.cell (World.block_lt_of_cell? w _ hw405_1)).trans hw405_1), ((HB.out.cell (World.block_lt_of_cell? w _ hw405_2)).trans hw405_2)⟩ (fun hHeld => ?_)
        clear hK K
        refine norm_ (a' := ?_) ?_ ?_
        rotate_left
        ·show Act.put _ (some 18) _ = _
         simp only [Act.put, List.setIfInBounds_toArray, List.set_cons_zero, List.set_cons_succ, i64_w, i32_w]
         rfl
        refine p1_ (i := 7) (N := some 19) laws_heldGoalS.d8 (any_of HT_.out (by kernel_rfl)) ?_
        refine done_ (done_of HT_.out (by kernel_rfl)) ?_
        have p407 : 0 ≤ (x5_1 : Int) := of_decide_eq_true (by first | (with_reducible assumption) | assumption)
        have q407 : x5_1 < (l0.length : Int) := of_decide_eq_true (by first | (with_reducible assumption) | assumption)
        obtain ⟨ad407, e407, hx407_0, hx407_1, hx407_2⟩ := at_T49 HR0.out x5_1 p407 q407
        obtain rfl : ad405 = ad407 := (by injection e407)
        replace hx407_0 := cx_ HB hx407_0
        replace hx407_1 := cx_ HB hx407_1
        replace hx407_2 := cx_ HB hx407_2
        replace p407 := eq_true p407
        replace q407 := eq_true q407
        have p408 : 0 ≤ (x5_1 : Int) := of_decide_eq_true (by first | (with_reducible assumption) | assumption)
        have q408 : x5_1 < (l0.length : Int) := of_decide_eq_true (by first | (with_reducible assumption) | assumption)
        obtain ⟨ad408, e408, hx408_0, hx408_1, hx408_2⟩ := at_T49 HR0.out x5_1 p408 q408
        obtain rfl : ad405 = ad408 := (by injection e408)
        replace hx408_0 := cx_ HB hx408_0
        replace hx408_1 := cx_ HB hx408_1
        replace hx408_2 := cx_ HB hx408_2
        replace p408 := eq_true p408
        replace q408 := eq_true q408
        try go_wp2
        go_roundg k1
        case measure => have := HK1.out; omega
        case rel => exact ⟨(wrap64 ((wrap64 ((wrap64 (x1_1 + 1)) + 1)) + 1)), (wrap64 (x5_1 + 1)), (by first | rfl | (simp; done) | (simp [*]; done)), (by first | rfl | (simp; done) | (simp [*]; done)), H', ⟨by have := HK1.out; omega⟩, ⟨hb_⟩⟩
       ·rw [if_neg c8] at H
        have c8b0 : (((rd_T49 l0 x5_1).f2) == (wrap64 ((wrap64 (x1_1 + 1)) + 1))) = false := beq_eq_false_iff_ne.mpr c8
        have c8b1 : (((rd_T49 l0 x5_1).f2) != (wrap64 ((wrap64 (x1_1 + 1)) + 1))) = true := bne_iff_ne.mpr c8
        obtain rfl := Option.some.inj H
        try go_wp2
        replace HB := ak_ (below_drew1 HB.out)
        have p405 : 0 ≤ (x5_1 : Int) := of_decide_eq_true (by first | (with_reducible assumption) | assumption)
        have q405 : x5_1 < (l0.length : Int) := of_decide_eq_true (by first | (with_reducible assumption) | assumption)
        obtain ⟨ad405, e405, hx405_0, hx405_1, hx405_2⟩ := at_T49 HR0.out x5_1 p405 q405
        have hw405_2 := hx405_2
        have hw405_1 := hx405_1
        have hw405_0 := hx405_0
        cases e405
        replace hx405_0 := cx_ HB hx405_0
        replace hx405_1 := cx_ HB hx405_1
        replace hx405_2 := cx_ HB hx405_2
        replace p405 := eq_true p405
        replace q405 := eq_true q405
        refine start_ (n := 8) (S := fun w' => w'.cell? (ad405.add ((x5_1).toNat * 3)) = some (.string ((rd_T49 l0 x5_1).f0)) ∧ w'.cell? ⟨(ad405.add ((x5_1).toNat * 3)).block, (ad405.add ((x5_1).toNat * 3)).off + 1, none⟩ = some (.int .i64 ((rd_T49 l0 x5_1).f1)) ∧ w'.cell? ⟨(ad405.add ((x5_1).toNat * 3)).block, (ad405.add ((x5_1).toNat * 3)).off + 2, none⟩ = some (.int .i64 ((rd_T49 l0 x5_1).f2))) (ds := []) laws_heldGoalS.d0 (by kernel_rfl) rfl rfl ⟨((HB.out.cell (World.block_lt_of_cell? w _ hw405_0)).trans hw405_0), ((HB.out.cell (World.block_lt_of_cell? w _ hw405_1)).trans hw405_1), ((HB.out.cell (World.block_lt_of_cell? w _ hw405_2)).trans hw405_2)⟩ (fun hHeld => ?_); refine with_tabW laws_heldGoalS.tab4 laws_heldGoalS.bits4 (fun HT_ HW_ => ?_)
        generalize wr.drew = w11 at HB hx405_0 hx405_1 hx405_2 hHeld ⊢
        refine p1_ (i := 0) (N := some 12) laws_heldGoalS.d1 (any_of HT_.out (by kernel_rfl)) ?_
        refine p1_ (i := 1) (N := some 13) laws_heldGoalS.d2 (any_of HT_.out (by kernel_rfl)) ?_
        refine p1_ (i := 2) (N := some 14) laws_heldGoalS.d3 (any_of HT_.out (by kernel_rfl)) ?_
        refine p1_ (i := 3) (N := some 15) laws_heldGoalS.d4 (any_of HT_.out (by kernel_rfl)) ?_
        refine p1_ (i := 5) (N := some 17) laws_heldGoalS.d5 (any_of HT_.out (by kernel_rfl)) ?_
        refine take_ (i := 4) (N := some 16) (v := ?_) (a' := ?_) laws_heldGoalS.d6 rfl rfl (take_ofW HT_.out HW_.out (by kernel_rfl)) (fun _ _ _ h => h) (Or.inl ⟨by rfl, ?_⟩) hHeld ?_ ?_; rotate_left; (rintro w' ⟨s0, s1, s2⟩; go_simp; with_reducible rfl); rotate_left; (simp only [Act.put, List.setIfInBounds_toArray, List.set_cons_zero, List.set_cons_succ, i64_w, i32_w]; rfl)
        refine one_ (i := 6) (N := some 18) laws_heldGoalS.d7 rfl rfl (one_of HT_.out (by kernel_rfl)) (by decide) (fun K hK => ?_)
        refine goes_ Try.func66 (by kernel_rfl) rfl #[.int .i64 x1_1] (by rfl) rfl rfl (ma1_ rfl) ?_
        with_reducible refine (laws_markText.calls k1 x1_1 t406 _ A5.out).mono ?_
        rintro e w12 ⟨rfl, hb⟩
        refine ⟨_, rfl, ?_⟩
        replace HB := ak_ (below_step hb_ hb)
        (try clear hb)
        (try clear hb2)
        (try clear hk)
        (try clear hi)
        refine hK.out _ _ ⟨((HB.out.cell (World.block_lt_of_cell? w _ hw405_0)).trans hw405_0), ((HB.out.cell (World.block_lt_of_cell? w _ hw405_1)).trans hw405_1), ((HB.out.cell (World.block_lt_of_cell? w _ hw405_2)).trans hw405_2)⟩ (fun hHeld => ?_)
        clear hK K
        refine norm_ (a' := ?_) ?_ ?_
        rotate_left
        ·show Act.put _ (some 18) _ = _
         simp only [Act.put, List.setIfInBounds_toArray, List.set_cons_zero, List.set_cons_succ, i64_w, i32_w]
         rfl
        refine p1_ (i := 7) (N := some 19) laws_heldGoalS.d8 (any_of HT_.out (by kernel_rfl)) ?_
        refine done_ (done_of HT_.out (by kernel_rfl)) ?_
        have p407 : 0 ≤ (x5_1 : Int) := of_decide_eq_true (by first | (with_reducible assumption) | assumption)
        have q407 : x5_1 < (l0.length : Int) := of_decide_eq_true (by first | (with_reducible assumption) | assumption)
        obtain ⟨ad407, e407, hx407_0, hx407_1, hx407_2⟩ := at_T49 HR0.out x5_1 p407 q407
        obtain rfl : ad405 = ad407 := (by injection e407)
        replace hx407_0 := cx_ HB hx407_0
        replace hx407_1 := cx_ HB hx407_1
        replace hx407_2 := cx_ HB hx407_2
        replace p407 := eq_true p407
        replace q407 := eq_true q407
        have p408 : 0 ≤ (x5_1 : Int) := of_decide_eq_true (by first | (with_reducible assumption) | assumption)
        have q408 : x5_1 < (l0.length : Int) := of_decide_eq_true (by first | (with_reducible assumption) | assumption)
        obtain ⟨ad408, e408, hx408_0, hx408_1, hx408_2⟩ := at_T49 HR0.out x5_1 p408 q408
        obtain rfl : ad405 = ad408 := (by injection e408)
        replace hx408_0 := cx_ HB hx408_0
        replace hx408_1 := cx_ HB hx408_1
        replace hx408_2 := cx_ HB hx408_2
        replace p408 := eq_true p408
        replace q408 := eq_true q408
        try go_wp2
        go_ret
        exact ⟨ew_, hb_⟩
      ·rw [if_neg c7] at H
       have c7b0 : (((rd_T49 l0 x5_1).f1) == (wrap64 (x1_1 + 1))) = false := beq_eq_false_iff_ne.mpr c7
       have c7b1 : (((rd_T49 l0 x5_1).f1) != (wrap64 (x1_1 + 1))) = true := bne_iff_ne.mpr c7
       obtain rfl := Option.some.inj H
       try go_wp2
       replace HB := ak_ (below_drew1 HB.out)
       have p405 : 0 ≤ (x5_1 : Int) := of_decide_eq_true (by first | (with_reducible assumption) | assumption)
       have q405 : x5_1 < (l0.length : Int) := of_decide_eq_true (by first | (with_reducible assumption) | assumption)
       obtain ⟨ad405, e405, hx405_0, hx405_1, hx405_2⟩ := at_T49 HR0.out x5_1 p405 q405
       have hw405_2 := hx405_2
       have hw405_1 := hx405_1
       have hw405_0 := hx405_0
       cases e405
       replace hx405_0 := cx_ HB hx405_0
       replace hx405_1 := cx_ HB hx405_1
       replace hx405_2 := cx_ HB hx405_2
       replace p405 := eq_true p405
       replace q405 := eq_true q405
       refine start_ (n := 8) (S := fun w' => w'.cell? (ad405.add ((x5_1).toNat * 3)) = some (.string ((rd_T49 l0 x5_1).f0)) ∧ w'.cell? ⟨(ad405.add ((x5_1).toNat * 3)).block, (ad405.add ((x5_1).toNat * 3)).off + 1, none⟩ = some (.int .i64 ((rd_T49 l0 x5_1).f1)) ∧ w'.cell? ⟨(ad405.add ((x5_1).toNat * 3)).block, (ad405.add ((x5_1).toNat * 3)).off + 2, none⟩ = some (.int .i64 ((rd_T49 l0 x5_1).f2))) (ds := []) laws_heldGoalS.d0 (by kernel_rfl) rfl rfl ⟨((HB.out.cell (World.block_lt_of_cell? w _ hw405_0)).trans hw405_0), ((HB.out.cell (World.block_lt_of_cell? w _ hw405_1)).trans hw405_1), ((HB.out.cell (World.block_lt_of_cell? w _ hw405_2)).trans hw405_2)⟩ (fun hHeld => ?_); refine with_tabW laws_heldGoalS.tab4 laws_heldGoalS.bits4 (fun HT_ HW_ => ?_)
       generalize wr.drew = w13 at HB hx405_0 hx405_1 hx405_2 hHeld ⊢
       refine p1_ (i := 0) (N := some 12) laws_heldGoalS.d1 (any_of HT_.out (by kernel_rfl)) ?_
       refine p1_ (i := 1) (N := some 13) laws_heldGoalS.d2 (any_of HT_.out (by kernel_rfl)) ?_
       refine p1_ (i := 2) (N := some 14) laws_heldGoalS.d3 (any_of HT_.out (by kernel_rfl)) ?_
       refine p1_ (i := 3) (N := some 15) laws_heldGoalS.d4 (any_of HT_.out (by kernel_rfl)) ?_
       refine p1_ (i := 5) (N := some 17) laws_heldGoalS.d5 (any_of HT_.out (by kernel_rfl)) ?_
       refine take_ (i := 4) (N := some 16) (v := ?_) (a' := ?_) laws_heldGoalS.d6 rfl rfl (take_ofW HT_.out HW_.out (by kernel_rfl)) (fun _ _ _ h => h) (Or.inl ⟨by rfl, ?_⟩) hHeld ?_ ?_; rotate_left; (rintro w' ⟨s0, s1, s2⟩; go_simp; with_reducible rfl); rotate_left; (simp only [Act.put, List.setIfInBounds_toArray, List.set_cons_zero, List.set_cons_succ, i64_w, i32_w]; rfl)
       refine one_ (i := 6) (N := some 18) laws_heldGoalS.d7 rfl rfl (one_of HT_.out (by kernel_rfl)) (by decide) (fun K hK => ?_)
       refine goes_ Try.func66 (by kernel_rfl) rfl #[.int .i64 x1_1] (by rfl) rfl rfl (ma1_ rfl) ?_
       with_reducible refine (laws_markText.calls k1 x1_1 t406 _ A5.out).mono ?_
       rintro e w14 ⟨rfl, hb⟩
       refine ⟨_, rfl, ?_⟩
       replace HB := ak_ (below_step hb_ hb)
       (try clear hb)
       (try clear hb2)
       (try clear hk)
       (try clear hi)
       refine hK.out _ _ ⟨((HB.out.cell (World.block_lt_of_cell? w _ hw405_0)).trans hw405_0), ((HB.out.cell (World.block_lt_of_cell? w _ hw405_1)).trans hw405_1), ((HB.out.cell (World.block_lt_of_cell? w _ hw405_2)).trans hw405_2)⟩ (fun hHeld => ?_)
       clear hK K
       refine norm_ (a' := ?_) ?_ ?_
       rotate_left
       ·show Act.put _ (some 18) _ = _
        simp only [Act.put, List.setIfInBounds_toArray, List.set_cons_zero, List.set_cons_succ, i64_w, i32_w]
        rfl
       refine p1_ (i := 7) (N := some 19) laws_heldGoalS.d8 (any_of HT_.out (by kernel_rfl)) ?_
       refine done_ (done_of HT_.out (by kernel_rfl)) ?_
       have p407 : 0 ≤ (x5_1 : Int) := of_decide_eq_true (by first | (with_reducible assumption) | assumption)
       have q407 : x5_1 < (l0.length : Int) := of_decide_eq_true (by first | (with_reducible assumption) | assumption)
       obtain ⟨ad407, e407, hx407_0, hx407_1, hx407_2⟩ := at_T49 HR0.out x5_1 p407 q407
       obtain rfl : ad405 = ad407 := (by injection e407)
       replace hx407_0 := cx_ HB hx407_0
       replace hx407_1 := cx_ HB hx407_1
       replace hx407_2 := cx_ HB hx407_2
       replace p407 := eq_true p407
       replace q407 := eq_true q407
       try go_wp2
       go_ret
       exact ⟨ew_, hb_⟩
     ·rw [if_neg c6] at H
      have c6b0 : (((rd_T49 l0 x5_1).f0).toList == t406.toList) = false := beq_eq_false_iff_ne.mpr c6
      have c6b1 : (((rd_T49 l0 x5_1).f0).toList != t406.toList) = true := bne_iff_ne.mpr c6
      obtain rfl := Option.some.inj H
      try go_wp2
      replace HB := ak_ (below_drew1 HB.out)
      have p405 : 0 ≤ (x5_1 : Int) := of_decide_eq_true (by first | (with_reducible assumption) | assumption)
      have q405 : x5_1 < (l0.length : Int) := of_decide_eq_true (by first | (with_reducible assumption) | assumption)
      obtain ⟨ad405, e405, hx405_0, hx405_1, hx405_2⟩ := at_T49 HR0.out x5_1 p405 q405
      have hw405_2 := hx405_2
      have hw405_1 := hx405_1
      have hw405_0 := hx405_0
      cases e405
      replace hx405_0 := cx_ HB hx405_0
      replace hx405_1 := cx_ HB hx405_1
      replace hx405_2 := cx_ HB hx405_2
      replace p405 := eq_true p405
      replace q405 := eq_true q405
      refine start_ (n := 8) (S := fun w' => w'.cell? (ad405.add ((x5_1).toNat * 3)) = some (.string ((rd_T49 l0 x5_1).f0)) ∧ w'.cell? ⟨(ad405.add ((x5_1).toNat * 3)).block, (ad405.add ((x5_1).toNat * 3)).off + 1, none⟩ = some (.int .i64 ((rd_T49 l0 x5_1).f1)) ∧ w'.cell? ⟨(ad405.add ((x5_1).toNat * 3)).block, (ad405.add ((x5_1).toNat * 3)).off + 2, none⟩ = some (.int .i64 ((rd_T49 l0 x5_1).f2))) (ds := []) laws_heldGoalS.d0 (by kernel_rfl) rfl rfl ⟨((HB.out.cell (World.block_lt_of_cell? w _ hw405_0)).trans hw405_0), ((HB.out.cell (World.block_lt_of_cell? w _ hw405_1)).trans hw405_1), ((HB.out.cell (World.block_lt_of_cell? w _ hw405_2)).trans hw405_2)⟩ (fun hHeld => ?_); refine with_tabW laws_heldGoalS.tab4 laws_heldGoalS.bits4 (fun HT_ HW_ => ?_)
      generalize wr.drew = w15 at HB hx405_0 hx405_1 hx405_2 hHeld ⊢
      refine p1_ (i := 0) (N := some 12) laws_heldGoalS.d1 (any_of HT_.out (by kernel_rfl)) ?_
      refine p1_ (i := 1) (N := some 13) laws_heldGoalS.d2 (any_of HT_.out (by kernel_rfl)) ?_
      refine p1_ (i := 2) (N := some 14) laws_heldGoalS.d3 (any_of HT_.out (by kernel_rfl)) ?_
      refine p1_ (i := 3) (N := some 15) laws_heldGoalS.d4 (any_of HT_.out (by kernel_rfl)) ?_
      refine p1_ (i := 5) (N := some 17) laws_heldGoalS.d5 (any_of HT_.out (by kernel_rfl)) ?_
      refine take_ (i := 4) (N := some 16) (v := ?_) (a' := ?_) laws_heldGoalS.d6 rfl rfl (take_ofW HT_.out HW_.out (by kernel_rfl)) (fun _ _ _ h => h) (Or.inl ⟨by rfl, ?_⟩) hHeld ?_ ?_; rotate_left; (rintro w' ⟨s0, s1, s2⟩; go_simp; with_reducible rfl); rotate_left; (simp only [Act.put, List.setIfInBounds_toArray, List.set_cons_zero, List.set_cons_succ, i64_w, i32_w]; rfl)
      refine one_ (i := 6) (N := some 18) laws_heldGoalS.d7 rfl rfl (one_of HT_.out (by kernel_rfl)) (by decide) (fun K hK => ?_)
      refine goes_ Try.func66 (by kernel_rfl) rfl #[.int .i64 x1_1] (by rfl) rfl rfl (ma1_ rfl) ?_
      with_reducible refine (laws_markText.calls k1 x1_1 t406 _ A5.out).mono ?_
      rintro e w16 ⟨rfl, hb⟩
      refine ⟨_, rfl, ?_⟩
      replace HB := ak_ (below_step hb_ hb)
      (try clear hb)
      (try clear hb2)
      (try clear hk)
      (try clear hi)
      refine hK.out _ _ ⟨((HB.out.cell (World.block_lt_of_cell? w _ hw405_0)).trans hw405_0), ((HB.out.cell (World.block_lt_of_cell? w _ hw405_1)).trans hw405_1), ((HB.out.cell (World.block_lt_of_cell? w _ hw405_2)).trans hw405_2)⟩ (fun hHeld => ?_)
      clear hK K
      refine norm_ (a' := ?_) ?_ ?_
      rotate_left
      ·show Act.put _ (some 18) _ = _
       simp only [Act.put, List.setIfInBounds_toArray, List.set_cons_zero, List.set_cons_succ, i64_w, i32_w]
       rfl
      refine p1_ (i := 7) (N := some 19) laws_heldGoalS.d8 (any_of HT_.out (by kernel_rfl)) ?_
      refine done_ (done_of HT_.out (by kernel_rfl)) ?_
      try go_wp2
      go_ret
      exact ⟨ew_, hb_⟩
    ·rw [if_neg c4] at H
     exact absurd H (by simp)
   ·rw [if_neg c3] at H
    have c3b0 : decide (x5_1 < (l0.length : Int)) = false := decide_eq_false c3
    clear c3
    obtain rfl := Option.some.inj H
    go_wp2
    go_ret
    exact ⟨ew_, hb_⟩

end Go.Proofs.Ytblfoelddakelaa.H
