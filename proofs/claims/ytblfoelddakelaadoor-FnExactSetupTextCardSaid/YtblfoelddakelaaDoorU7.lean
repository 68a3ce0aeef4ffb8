-- PRINTED by print.py (a twelfth state) out of the translation. Not trusted: Lean checks it.
import Derived.Test.YtblfoelddakelaaDoorU0
import Derived.Test.YtblfoelddakelaaDoorU1
import Derived.Test.YtblfoelddakelaaDoorU6
namespace Go.Proofs.YtblfoelddakelaaDoor.U
open Go.RowKit Go.Proofs.YtblfoelddakelaaDoorW.PrintWords Go.Proofs.YtblfoelddakelaaDoorW.PrintLast Go.Proofs.YtblfoelddakelaaDoorW.PrintMore
attribute [local go_sem] max2_int min2_int max_two min_two max_three min_three max_four min_four   -- for this text's walks alone
set_option linter.unusedVariables false
set_option linter.unusedSimpArgs false

/-! ### spec_SideText: function 11 -/
def spec_SideText.l0 : Nat → ByteArray → Int → List (S67) → Int → Int → Option (ByteArray)
  | 0, _, _, _, _, _ => none
  | k + 1, x3, x4, x158000, x158001, x158002 => if x4 < (x158000.length : Int) then (if 0 ≤ x4 then (if x3.size + 1 ≤ 9223372036854775807 then ((spec_l01Num.f k ((rd_T67 x158000 x4).f0)).bind fun t163 => (if (x3 ++ (⟨#[32]⟩ : ByteArray)).size + t163.size ≤ 9223372036854775807 then (if ((x3 ++ (⟨#[32]⟩ : ByteArray)) ++ t163).size + 1 ≤ 9223372036854775807 then ((spec_l01Num.f k ((rd_T67 x158000 x4).f1)).bind fun t164 => (if (((x3 ++ (⟨#[32]⟩ : ByteArray)) ++ t163) ++ (⟨#[58]⟩ : ByteArray)).size + t164.size ≤ 9223372036854775807 then (if ((((x3 ++ (⟨#[32]⟩ : ByteArray)) ++ t163) ++ (⟨#[58]⟩ : ByteArray)) ++ t164).size + 1 ≤ 9223372036854775807 then ((spec_l01Num.f k ((rd_T67 x158000 x4).f2)).bind fun t165 => (if (((((x3 ++ (⟨#[32]⟩ : ByteArray)) ++ t163) ++ (⟨#[58]⟩ : ByteArray)) ++ t164) ++ (⟨#[58]⟩ : ByteArray)).size + t165.size ≤ 9223372036854775807 then (spec_SideText.l0 k ((((((x3 ++ (⟨#[32]⟩ : ByteArray)) ++ t163) ++ (⟨#[58]⟩ : ByteArray)) ++ t164) ++ (⟨#[58]⟩ : ByteArray)) ++ t165) (wrap64 (x4 + 1)) x158000 x158001 x158002) else (none))) else (none)) else (none))) else (none)) else (none))) else (none)) else (none)) else (some x3)
def spec_SideText.f (k : Nat) (l0_0 : List (S67)) (a0_1 : Int) (a0_2 : Int) : Option (ByteArray) := (spec_SideOk.f k l0_0 a0_1 a0_2).bind fun t158 => (if t158 = true then ((spec_l01Num.f k a0_1).bind fun t159 => (if t159.size + 1 ≤ 9223372036854775807 then ((spec_l01Num.f k a0_2).bind fun t160 => (if (t159 ++ (⟨#[32]⟩ : ByteArray)).size + t160.size ≤ 9223372036854775807 then (spec_SideText.l0 k ((t159 ++ (⟨#[32]⟩ : ByteArray)) ++ t160) 0 l0_0 a0_1 a0_2) else (none))) else (none))) else (some (⟨#[]⟩ : ByteArray)))
theorem spec_SideText.mono_l : ∀ k, (∀ y0 y1 y2 y3 y4, LeO (spec_SideText.l0 k y0 y1 y2 y3 y4) (spec_SideText.l0 (k + 1) y0 y1 y2 y3 y4))
  | 0 => fun _ _ _ _ _ r h => by simp [spec_SideText.l0] at h
  | k + 1 => by
    have ih0 := spec_SideText.mono_l k
    · intro y0 y1 y2 y3 y4
      unfold spec_SideText.l0
      repeat' with_reducible first | exact ih0 _ _ _ _ _ | exact spec_SideOk.mono _ _ _ _ | exact spec_l01Num.mono _ _ | exact LeO.refl _ | exact LeO.none _ | refine LeO.ite ?_ ?_ | refine LeO.bind ?_ (fun _ => ?_)
theorem spec_SideText.mono : ∀ a0 a1 a2 k, LeO (spec_SideText.f k a0 a1 a2) (spec_SideText.f (k + 1) a0 a1 a2) := by
  intro a0 a1 a2 k
  have ih0 := spec_SideText.mono_l k
  unfold spec_SideText.f
  repeat' with_reducible first | exact ih0 _ _ _ _ _ | exact spec_SideOk.mono _ _ _ _ | exact spec_l01Num.mono _ _ | exact LeO.refl _ | exact LeO.none _ | refine LeO.ite ?_ ?_ | refine LeO.bind ?_ (fun _ => ?_)
def spec_SideText.T3 : Bool × List (List Nat × List Nat) := (true, [([], []), ([0], [0]), ([1], [1]), ([2], [2]), ([], []), ([4], [4]), ([5, 2], [5]), ([3, 6], [3, 6]), ([7, 6, 0, 1, 2, 3, 4, 5, 6, 7], [7])])
def spec_SideText.B3 : List Nat := [0, 1, 3, 7, 0, 16, 55, 127, 255]
theorem spec_SideText.tab3 : rtab .any (opsOf Tryd.f11 3) = spec_SideText.T3 := by kernel_rfl
theorem spec_SideText.bits3 : waitsOk spec_SideText.T3.2 spec_SideText.B3 = true := by kernel_rfl
def spec_SideText.T8 : Bool × List (List Nat × List Nat) := (true, [([], []), ([0], [0]), ([], []), ([2], [2]), ([3], [3]), ([1, 4], [1, 4]), ([5], [5]), ([], []), ([7], [7]), ([8, 4], [8]), ([6, 9], [6, 9]), ([10], [10]), ([], []), ([12], [12]), ([13, 9], [13]), ([11, 14], [11, 14]), ([15, 14, 0, 1, 2, 3, 4, 5, 6, 7, 8, 9, 10, 11, 12, 13, 14, 15], [0, 15])])
def spec_SideText.B8 : List Nat := [0, 1, 0, 4, 12, 31, 63, 0, 128, 412, 1023, 2047, 0, 4096, 13212, 32767, 65535]
theorem spec_SideText.tab8 : rtab .any (opsOf Tryd.f11 8) = spec_SideText.T8 := by kernel_rfl
theorem spec_SideText.bits8 : waitsOk spec_SideText.T8.2 spec_SideText.B8 = true := by kernel_rfl
set_option maxHeartbeats 8000000 in
set_option maxRecDepth 100000 in
theorem spec_SideText.calls (k : Nat) (A0_0 : Option Addr) (c0_0 : Nat) (l0_0 : List (S67)) (a0_1 : Int) (a0_2 : Int) (r : ByteArray) (w : World) (hr0_0 : Kd.C k67 w A0_0 l0_0.length l0_0) (hc0_0 : l0_0.length ≤ c0_0) (h : spec_SideText.f k l0_0 a0_1 a0_2 = some r) :
  Calls Tryd.prog 11 #[.agg #[.slice A0_0 l0_0.length c0_0, .int .i64 a0_1, .int .i64 a0_2]] w fun e w' => e = .returned (.string r) ∧ Below w.heap.size w w' := by
 have hu35 := Tryd.underlying35
 have hu67 := Tryd.underlying67
 have HR0_0 := Aside0.mk hr0_0
 have HC0_0 := Aside0.mk hc0_0
 clear hr0_0 hc0_0
 have HB := Aside0.mk (Below.refl w.heap.size w)
 have H : ((spec_SideOk.f k l0_0 a0_1 a0_2).bind fun t158 => (if t158 = true then ((spec_l01Num.f k a0_1).bind fun t159 => (if t159.size + 1 ≤ 9223372036854775807 then ((spec_l01Num.f k a0_2).bind fun t160 => (if (t159 ++ (⟨#[32]⟩ : ByteArray)).size + t160.size ≤ 9223372036854775807 then (spec_SideText.l0 k ((t159 ++ (⟨#[32]⟩ : ByteArray)) ++ t160) 0 l0_0 a0_1 a0_2) else (none))) else (none))) else (some (⟨#[]⟩ : ByteArray)))) = some r := h
 clear h
 replace H := Option.bind_eq_some_iff.mp H
 obtain ⟨t158, A20, H⟩ := H
 replace H : (if t158 = true then ((spec_l01Num.f k a0_1).bind fun t159 => (if t159.size + 1 ≤ 9223372036854775807 then ((spec_l01Num.f k a0_2).bind fun t160 => (if (t159 ++ (⟨#[32]⟩ : ByteArray)).size + t160.size ≤ 9223372036854775807 then (spec_SideText.l0 k ((t159 ++ (⟨#[32]⟩ : ByteArray)) ++ t160) 0 l0_0 a0_1 a0_2) else (none))) else (none))) else (some (⟨#[]⟩ : ByteArray))) = some r := H
 have A2 := Aside0.mk A20
 clear A20
 by_cases c3 : t158 = true
 ·subst c3
  rw [if_pos rfl] at H
  replace H := Option.bind_eq_some_iff.mp H
  obtain ⟨t159, A40, H⟩ := H
  replace H : (if t159.size + 1 ≤ 9223372036854775807 then ((spec_l01Num.f k a0_2).bind fun t160 => (if (t159 ++ (⟨#[32]⟩ : ByteArray)).size + t160.size ≤ 9223372036854775807 then (spec_SideText.l0 k ((t159 ++ (⟨#[32]⟩ : ByteArray)) ++ t160) 0 l0_0 a0_1 a0_2) else (none))) else (none)) = some r := H
  have A4 := Aside0.mk A40
  clear A40
  by_cases c5 : t159.size + 1 ≤ 9223372036854775807
  ·rw [if_pos c5] at H
   have c5b0 := eq_true c5
   have c5b1 : decide (t159.size + 1 ≤ 9223372036854775807) = true := decide_eq_true c5
   try have c5b2 : (9223372036854775807 < t159.size + 1) = False := eq_false (Nat.not_lt.2 c5)
   replace H := Option.bind_eq_some_iff.mp H
   obtain ⟨t160, A60, H⟩ := H
   replace H : (if (t159 ++ (⟨#[32]⟩ : ByteArray)).size + t160.size ≤ 9223372036854775807 then (spec_SideText.l0 k ((t159 ++ (⟨#[32]⟩ : ByteArray)) ++ t160) 0 l0_0 a0_1 a0_2) else (none)) = some r := H
   have A6 := Aside0.mk A60
   clear A60
   by_cases c7 : (t159 ++ (⟨#[32]⟩ : ByteArray)).size + t160.size ≤ 9223372036854775807
   ·rw [if_pos c7] at H
    have c7n3 := c7
    try simp only [ByteArray.size_append, show (⟨#[32]⟩ : ByteArray).size = 1 from rfl] at c7n3
    try have c7n4 := eq_true c7n3
    try have c7n5 := decide_eq_true c7n3
    try have c7n6 := eq_false (Nat.not_lt.2 c7n3)
    have c7b0 := eq_true c7
    have c7b1 : decide ((t159 ++ (⟨#[32]⟩ : ByteArray)).size + t160.size ≤ 9223372036854775807) = true := decide_eq_true c7
    try have c7b2 : (9223372036854775807 < (t159 ++ (⟨#[32]⟩ : ByteArray)).size + t160.size) = False := eq_false (Nat.not_lt.2 c7)
    have H' := Aside0.mk H
    clear H
    go_enter Tryd.func11, Tryd.ntmps11
    try go_wp2_with (first | ((with_reducible refine gate_dst (N := 1) rfl ?_); refine be_ (N := 1) (cs := #[.slice A0_0 l0_0.length c0_0, .int .i64 a0_1, .int .i64 a0_2]) (t := 35) ?_; intro gb157 hg w8 hbox hb; have BK157 := ak_ hbox; have GW157 := ak_ ((gs_ hg : w.heap.size ≤ gb157)); have GE157 := ak_ ((gs_ hg : w.heap.size ≤ gb157)); replace HB := ak_ (below_step hb_ hb); clear hb hbox hg; obtain ⟨hcz9_0, hcz9_1, hcz9_2, hfz9_0, hfz9_1, hfz9_2⟩ := bc3_ BK157.out) | ((with_reducible refine gate_callee (f := 28) rfl ?_); refine goesL_ (some 7) rfl rfl Tryd.func28 (by kernel_rfl) rfl #[.agg #[.slice A0_0 l0_0.length c0_0, .int .i64 a0_1, .int .i64 a0_2]] rfl (ma1_ rfl) ?_; (with_reducible refine (spec_SideOk.calls k _ _ l0_0 a0_1 a0_2 true _ ?side1 ?side2 A2.out).mono ?_); (case side1 => exact kc_ HR0_0); (case side2 => exact HC0_0.out); rintro e w10 ⟨rfl, hb⟩; refine ⟨_, rfl, ?_⟩; replace BK157 := ak_ (blk_below (bk_ BK157) hb); replace HB := ak_ (below_step hb_ hb); (try clear hb)))
    replace BK157 := ak_ (blk_drew BK157.out)
    replace HB := ak_ (below_drew1 HB.out)
    refine start_ (n := 9) (S := fun w' => w'.cell? ⟨gb157, 0, none⟩ = some (.slice A0_0 l0_0.length c0_0) ∧ w'.cell? ⟨gb157, 1, none⟩ = some (.int .i64 a0_1) ∧ w'.cell? ⟨gb157, 2, none⟩ = some (.int .i64 a0_2)) (ds := []) #[false, false, false, false, false, false, false, false, false] (by kernel_rfl) rfl rfl ⟨(blk_cell BK157.out 0).trans rfl, (blk_cell BK157.out 1).trans rfl, (blk_cell BK157.out 2).trans rfl⟩ (fun hHeld => ?_); refine with_tabW spec_SideText.tab3 spec_SideText.bits3 (fun HT_ HW_ => ?_)
    generalize w10.drew = w11 at BK157 HB hHeld ⊢
    refine pure_ (i := 0) (N := some 9) (v := ?_) (a' := ?_) #[true, false, false, false, false, false, false, false, false] rfl rfl (any_of HT_.out (by kernel_rfl)) (fun _ _ _ h => h) (Or.inl ⟨by rfl, ?_⟩) ?_ ?_; rotate_left; (intro w'; go_simp; with_reducible rfl); rotate_left; (simp only [Act.put, List.setIfInBounds_toArray, List.set_cons_zero, List.set_cons_succ, i64_w, i32_w]; rfl)
    refine pure_ (i := 4) (N := some 13) (v := ?_) (a' := ?_) #[true, false, false, false, true, false, false, false, false] rfl rfl (any_of HT_.out (by kernel_rfl)) (fun _ _ _ h => h) (Or.inl ⟨by rfl, ?_⟩) ?_ ?_; rotate_left; (intro w'; go_simp; with_reducible rfl); rotate_left; (simp only [Act.put, List.setIfInBounds_toArray, List.set_cons_zero, List.set_cons_succ, i64_w, i32_w]; rfl)
    refine take_ (i := 1) (N := some 10) (v := ?_) (a' := ?_) #[true, true, false, false, true, false, false, false, false] rfl rfl (take_ofW HT_.out HW_.out (by kernel_rfl)) (fun _ _ _ h => h) (Or.inl ⟨by rfl, ?_⟩) hHeld ?_ ?_; rotate_left; (rintro w' ⟨s0, s1, s2⟩; go_simp; with_reducible rfl); rotate_left; (simp only [Act.put, List.setIfInBounds_toArray, List.set_cons_zero, List.set_cons_succ, i64_w, i32_w]; rfl)
    refine take_ (i := 5) (N := some 14) (v := ?_) (a' := ?_) #[true, true, false, false, true, true, false, false, false] rfl rfl (take_ofW HT_.out HW_.out (by kernel_rfl)) (fun _ _ _ h => h) (Or.inl ⟨by rfl, ?_⟩) hHeld ?_ ?_; rotate_left; (rintro w' ⟨s0, s1, s2⟩; go_simp; with_reducible rfl); rotate_left; (simp only [Act.put, List.setIfInBounds_toArray, List.set_cons_zero, List.set_cons_succ, i64_w, i32_w]; rfl)
    refine one_ (i := 2) (N := some 11) #[true, true, true, false, true, true, false, false, false] rfl rfl (one_of HT_.out (by kernel_rfl)) (by decide) (fun K hK => ?_)
    refine goes_ Tryd.func24 (by kernel_rfl) rfl #[.int .i64 a0_1] (by rfl) rfl rfl (ma1_ rfl) ?_
    with_reducible refine (spec_l01Num.calls k a0_1 t159 _ A4.out).mono ?_
    rintro e w12 ⟨rfl, hb⟩
    refine ⟨_, rfl, ?_⟩
    replace BK157 := ak_ (blk_below (bk_ BK157) hb)
    replace HB := ak_ (below_step hb_ hb)
    (try clear hb)
    (try clear hb2)
    (try clear hk)
    (try clear hi)
    refine hK.out _ _ ⟨(blk_cell BK157.out 0).trans rfl, (blk_cell BK157.out 1).trans rfl, (blk_cell BK157.out 2).trans rfl⟩ (fun hHeld => ?_)
    clear hK K
    refine norm_ (a' := ?_) ?_ ?_
    rotate_left
    ·show Act.put _ (some 11) _ = _
     simp only [Act.put, List.setIfInBounds_toArray, List.set_cons_zero, List.set_cons_succ, i64_w, i32_w]
     rfl
    refine pure_ (i := 3) (N := some 12) (v := ?_) (a' := ?_) #[true, true, true, true, true, true, false, false, false] rfl rfl (any_of HT_.out (by kernel_rfl)) (fun _ _ _ h => h) (Or.inl ⟨by rfl, ?_⟩) ?_ ?_; rotate_left; (intro w'; go_simp; with_reducible rfl); rotate_left; (simp only [Act.put, List.setIfInBounds_toArray, List.set_cons_zero, List.set_cons_succ, i64_w, i32_w]; rfl)
    refine one_ (i := 6) (N := some 15) #[true, true, true, true, true, true, true, false, false] rfl rfl (one_of HT_.out (by kernel_rfl)) (by decide) (fun K hK => ?_)
    refine goes_ Tryd.func24 (by kernel_rfl) rfl #[.int .i64 a0_2] (by rfl) rfl rfl (ma1_ rfl) ?_
    with_reducible refine (spec_l01Num.calls k a0_2 t160 _ A6.out).mono ?_
    rintro e w13 ⟨rfl, hb⟩
    refine ⟨_, rfl, ?_⟩
    replace BK157 := ak_ (blk_below (bk_ BK157) hb)
    replace HB := ak_ (below_step hb_ hb)
    (try clear hb)
    (try clear hb2)
    (try clear hk)
    (try clear hi)
    refine hK.out _ _ ⟨(blk_cell BK157.out 0).trans rfl, (blk_cell BK157.out 1).trans rfl, (blk_cell BK157.out 2).trans rfl⟩ (fun hHeld => ?_)
    clear hK K
    refine norm_ (a' := ?_) ?_ ?_
    rotate_left
    ·show Act.put _ (some 15) _ = _
     simp only [Act.put, List.setIfInBounds_toArray, List.set_cons_zero, List.set_cons_succ, i64_w, i32_w]
     rfl
    refine pure_ (i := 7) (N := some 16) (v := ?_) (a' := ?_) #[true, true, true, true, true, true, true, true, false] rfl rfl (any_of HT_.out (by kernel_rfl)) (fun _ _ _ h => h) (Or.inl ⟨by rfl, ?_⟩) ?_ ?_; rotate_left; (intro w'; go_simp; with_reducible rfl); rotate_left; (simp only [Act.put, List.setIfInBounds_toArray, List.set_cons_zero, List.set_cons_succ, i64_w, i32_w]; rfl)
    refine pure_ (i := 8) (N := some 3) (v := ?_) (a' := ?_) #[true, true, true, true, true, true, true, true, true] rfl rfl (any_of HT_.out (by kernel_rfl)) (fun _ _ _ h => h) (Or.inl ⟨by rfl, ?_⟩) ?_ ?_; rotate_left; (intro w'; go_simp; with_reducible rfl); rotate_left; (simp only [Act.put, List.setIfInBounds_toArray, List.set_cons_zero, List.set_cons_succ, i64_w, i32_w]; rfl)
    refine done_ (done_of HT_.out (by kernel_rfl)) ?_
    try go_wp2
    go_loopg [3, 4] k (fun kq v3 v4 w' => ∃ (x3_1 : ByteArray) (x4_1 : Int), v3 = .string x3_1 ∧ v4 = .int .i64 x4_1 ∧ Aside0 (spec_SideText.l0 kq x3_1 x4_1 l0_0 a0_1 a0_2 = some r) ∧ Aside0 (kq ≤ k) ∧ Aside0 (w'.heap[gb157]? = some (.cells #[(.slice A0_0 l0_0.length c0_0), .int .i64 a0_1, .int .i64 a0_2] 35 (0, 0))) ∧ Aside0 (Below w.heap.size w w'))
    case atStart => exact ⟨((t159 ++ (⟨#[32]⟩ : ByteArray)) ++ t160), (0), (by first | rfl | (simp; done) | (simp [*]; done)), (by first | rfl | (simp; done) | (simp [*]; done)), H', ⟨Nat.le_refl _⟩, ⟨by (with_reducible repeat (first | refine blk_drewN ?_ _ | refine blk_drew ?_ | refine blk_alloc ?_ _)); exact BK157.out⟩, ⟨hb_⟩⟩
    case round =>
     clear H'
     try clear c1
     try clear c2
     try clear p2
     try clear c3
     try clear c5
     try clear c5b0
     try clear c5b1
     try clear c5b2
     try clear c7
     try clear c7b0
     try clear c7b1
     try clear c7b2
     try clear c11
     try clear hcz9_0
     try clear hcz9_1
     try clear hcz9_2
     try clear hfz9_0
     try clear hfz9_1
     try clear hfz9_2
     obtain ⟨x3_1, x4_1, rfl, rfl, HA, HK1, BK157, HB⟩ := hrel
     cases gk with
     | zero => exact absurd HA.out (by simp [spec_SideText.l0])
     | succ k1 =>
      have H := HA.out
      clear HA
      simp only [spec_SideText.l0] at H
      by_cases c14 : x4_1 < (l0_0.length : Int)
      ·rw [if_pos c14] at H
       have c14b0 : decide (x4_1 < (l0_0.length : Int)) = true := decide_eq_true c14
       clear c14
       by_cases c15 : 0 ≤ x4_1
       ·rw [if_pos c15] at H
        have c15b0 : decide (0 ≤ x4_1) = true := decide_eq_true c15
        clear c15
        by_cases c16 : x3_1.size + 1 ≤ 9223372036854775807
        ·rw [if_pos c16] at H
         have c16b0 := eq_true c16
         have c16b1 : decide (x3_1.size + 1 ≤ 9223372036854775807) = true := decide_eq_true c16
         try have c16b2 : (9223372036854775807 < x3_1.size + 1) = False := eq_false (Nat.not_lt.2 c16)
         replace H := Option.bind_eq_some_iff.mp H
         obtain ⟨t163, A170, H⟩ := H
         replace H : (if (x3_1 ++ (⟨#[32]⟩ : ByteArray)).size + t163.size ≤ 9223372036854775807 then (if ((x3_1 ++ (⟨#[32]⟩ : ByteArray)) ++ t163).size + 1 ≤ 9223372036854775807 then ((spec_l01Num.f k1 ((rd_T67 l0_0 x4_1).f1)).bind fun t164 => (if (((x3_1 ++ (⟨#[32]⟩ : ByteArray)) ++ t163) ++ (⟨#[58]⟩ : ByteArray)).size + t164.size ≤ 9223372036854775807 then (if ((((x3_1 ++ (⟨#[32]⟩ : ByteArray)) ++ t163) ++ (⟨#[58]⟩ : ByteArray)) ++ t164).size + 1 ≤ 9223372036854775807 then ((spec_l01Num.f k1 ((rd_T67 l0_0 x4_1).f2)).bind fun t165 => (if (((((x3_1 ++ (⟨#[32]⟩ : ByteArray)) ++ t163) ++ (⟨#[58]⟩ : ByteArray)) ++ t164) ++ (⟨#[58]⟩ : ByteArray)).size + t165.size ≤ 9223372036854775807 then (spec_SideText.l0 k1 ((((((x3_1 ++ (⟨#[32]⟩ : ByteArray)) ++ t163) ++ (⟨#[58]⟩ : ByteArray)) ++ t164) ++ (⟨#[58]⟩ : ByteArray)) ++ t165) (wrap64 (x4_1 + 1)) l0_0 a0_1 a0_2) else (none))) else (none)) else (none))) else (none)) else (none)) = some r := H
         have A17 := Aside0.mk A170
         clear A170
         by_cases c18 : (x3_1 ++ (⟨#[32]⟩ : ByteArray)).size + t163.size ≤ 9223372036854775807
         ·rw [if_pos c18] at H
          have c18n3 := c18
          try simp only [ByteArray.size_append, show (⟨#[32]⟩ : ByteArray).size = 1 from rfl] at c18n3
          try have c18n4 := eq_true c18n3
          try have c18n5 := decide_eq_true c18n3
          try have c18n6 := eq_false (Nat.not_lt.2 c18n3)
          have c18b0 := eq_true c18
          have c18b1 : decide ((x3_1 ++ (⟨#[32]⟩ : ByteArray)).size + t163.size ≤ 9223372036854775807) = true := decide_eq_true c18
          try have c18b2 : (9223372036854775807 < (x3_1 ++ (⟨#[32]⟩ : ByteArray)).size + t163.size) = False := eq_false (Nat.not_lt.2 c18)
          by_cases c19 : ((x3_1 ++ (⟨#[32]⟩ : ByteArray)) ++ t163).size + 1 ≤ 9223372036854775807
          ·rw [if_pos c19] at H
           have c19n3 := c19
           try simp only [ByteArray.size_append, show (⟨#[32]⟩ : ByteArray).size = 1 from rfl] at c19n3
           try have c19n4 := eq_true c19n3
           try have c19n5 := decide_eq_true c19n3
           try have c19n6 := eq_false (Nat.not_lt.2 c19n3)
           have c19b0 := eq_true c19
           have c19b1 : decide (((x3_1 ++ (⟨#[32]⟩ : ByteArray)) ++ t163).size + 1 ≤ 9223372036854775807) = true := decide_eq_true c19
           try have c19b2 : (9223372036854775807 < ((x3_1 ++ (⟨#[32]⟩ : ByteArray)) ++ t163).size + 1) = False := eq_false (Nat.not_lt.2 c19)
           replace H := Option.bind_eq_some_iff.mp H
           obtain ⟨t164, A200, H⟩ := H
           replace H : (if (((x3_1 ++ (⟨#[32]⟩ : ByteArray)) ++ t163) ++ (⟨#[58]⟩ : ByteArray)).size + t164.size ≤ 9223372036854775807 then (if ((((x3_1 ++ (⟨#[32]⟩ : ByteArray)) ++ t163) ++ (⟨#[58]⟩ : ByteArray)) ++ t164).size + 1 ≤ 9223372036854775807 then ((spec_l01Num.f k1 ((rd_T67 l0_0 x4_1).f2)).bind fun t165 => (if (((((x3_1 ++ (⟨#[32]⟩ : ByteArray)) ++ t163) ++ (⟨#[58]⟩ : ByteArray)) ++ t164) ++ (⟨#[58]⟩ : ByteArray)).size + t165.size ≤ 9223372036854775807 then (spec_SideText.l0 k1 ((((((x3_1 ++ (⟨#[32]⟩ : ByteArray)) ++ t163) ++ (⟨#[58]⟩ : ByteArray)) ++ t164) ++ (⟨#[58]⟩ : ByteArray)) ++ t165) (wrap64 (x4_1 + 1)) l0_0 a0_1 a0_2) else (none))) else (none)) else (none)) = some r := H
           have A20 := Aside0.mk A200
           clear A200
           by_cases c21 : (((x3_1 ++ (⟨#[32]⟩ : ByteArray)) ++ t163) ++ (⟨#[58]⟩ : ByteArray)).size + t164.size ≤ 9223372036854775807
           ·rw [if_pos c21] at H
            have c21n3 := c21
            try simp only [ByteArray.size_append, show (⟨#[32]⟩ : ByteArray).size = 1 from rfl, show (⟨#[58]⟩ : ByteArray).size = 1 from rfl] at c21n3
            try have c21n4 := eq_true c21n3
            try have c21n5 := decide_eq_true c21n3
            try have c21n6 := eq_false (Nat.not_lt.2 c21n3)
            have c21b0 := eq_true c21
            have c21b1 : decide ((((x3_1 ++ (⟨#[32]⟩ : ByteArray)) ++ t163) ++ (⟨#[58]⟩ : ByteArray)).size + t164.size ≤ 9223372036854775807) = true := decide_eq_true c21
            try have c21b2 : (9223372036854775807 < (((x3_1 ++ (⟨#[32]⟩ : ByteArray)) ++ t163) ++ (⟨#[58]⟩ : ByteArray)).size + t164.size) = False := eq_false (Nat.not_lt.2 c21)
            by_cases c22 : ((((x3_1 ++ (⟨#[32]⟩ : ByteArray)) ++ t163) ++ (⟨#[58]⟩ : ByteArray)) ++ t164).size + 1 ≤ 9223372036854775807
            ·rw [if_pos c22] at H
             have c22n3 := c22
             try simp only [ByteArray.size_append, show (⟨#[32]⟩ : ByteArray).size = 1 from rfl, show (⟨#[58]⟩ : ByteArray).size = 1 from rfl] at c22n3
             try have c22n4 := eq_true c22n3
             try have c22n5 := decide_eq_true c22n3
             try have c22n6 := eq_false (Nat.not_lt.2 c22n3)
             have c22b0 := eq_true c22
             have c22b1 : decide (((((x3_1 ++ (⟨#[32]⟩ : ByteArray)) ++ t163) ++ (⟨#[58]⟩ : ByteArray)) ++ t164).size + 1 ≤ 9223372036854775807) = true := decide_eq_true c22
             try have c22b2 : (9223372036854775807 < ((((x3_1 ++ (⟨#[32]⟩ : ByteArray)) ++ t163) ++ (⟨#[58]⟩ : ByteArray)) ++ t164).size + 1) = False := eq_false (Nat.not_lt.2 c22)
             replace H := Option.bind_eq_some_iff.mp H
             obtain ⟨t165, A230, H⟩ := H
             replace H : (if (((((x3_1 ++ (⟨#[32]⟩ : ByteArray)) ++ t163) ++ (⟨#[58]⟩ : ByteArray)) ++ t164) ++ (⟨#[58]⟩ : ByteArray)).size + t165.size ≤ 9223372036854775807 then (spec_SideText.l0 k1 ((((((x3_1 ++ (⟨#[32]⟩ : ByteArray)) ++ t163) ++ (⟨#[58]⟩ : ByteArray)) ++ t164) ++ (⟨#[58]⟩ : ByteArray)) ++ t165) (wrap64 (x4_1 + 1)) l0_0 a0_1 a0_2) else (none)) = some r := H
             have A23 := Aside0.mk A230
             clear A230
             by_cases c24 : (((((x3_1 ++ (⟨#[32]⟩ : ByteArray)) ++ t163) ++ (⟨#[58]⟩ : ByteArray)) ++ t164) ++ (⟨#[58]⟩ : ByteArray)).size + t165.size ≤ 9223372036854775807
             ·rw [if_pos c24] at H
              have c24n3 := c24
              try simp only [ByteArray.size_append, show (⟨#[32]⟩ : ByteArray).size = 1 from rfl, show (⟨#[58]⟩ : ByteArray).size = 1 from rfl] at c24n3
              try have c24n4 := eq_true c24n3
              try have c24n5 := decide_eq_true c24n3
              try have c24n6 := eq_false (Nat.not_lt.2 c24n3)
              have c24b0 := eq_true c24
              have c24b1 : decide ((((((x3_1 ++ (⟨#[32]⟩ : ByteArray)) ++ t163) ++ (⟨#[58]⟩ : ByteArray)) ++ t164) ++ (⟨#[58]⟩ : ByteArray)).size + t165.size ≤ 9223372036854775807) = true := decide_eq_true c24
              try have c24b2 : (9223372036854775807 < (((((x3_1 ++ (⟨#[32]⟩ : ByteArray)) ++ t163) ++ (⟨#[58]⟩ : ByteArray)) ++ t164) ++ (⟨#[58]⟩ : ByteArray)).size + t165.size) = False := eq_false (Nat.not_lt.2 c24)
              have H' := Aside0.mk H
              clear H
              obtain ⟨hcz25_0, hcz25_1, hcz25_2, hfz25_0, hfz25_1, hfz25_2⟩ := bc3_ BK157.out
              have p161 : 0 ≤ (x4_1 : Int) := of_decide_eq_true (by first | (with_reducible assumption) | assumption)
              have q161 : x4_1 < (l0_0.length : Int) := of_decide_eq_true (by first | (with_reducible assumption) | assumption)
              obtain ⟨ad161, e161, hx161_0, hx161_1, hx161_2⟩ := at_T67 HR0_0.out x4_1 p161 q161
              cases e161
              replace hx161_0 := cx_ HB hx161_0
              replace hx161_1 := cx_ HB hx161_1
              replace hx161_2 := cx_ HB hx161_2
              replace p161 := eq_true p161
              replace q161 := eq_true q161
              try go_wp2_with (first | ((with_reducible refine gate_dst (N := 5) rfl ?_); refine be_ (N := 5) (cs := #[.int .i64 0, .int .i64 0, .int .i64 0]) (t := 67) ?_; intro gb162 hg w26 hbox hb; have BK162 := ak_ hbox; have GW162 := ak_ ((gs_ hg : w.heap.size ≤ gb162)); have GE162 := ak_ ((gs_ hg : w.heap.size ≤ gb162)); replace HB := ak_ (below_step hb_ hb); have NB157_162 := ak_ (nl_ hg (bk_ BK157)); have NB162_157 := ak_ (ng_ hg (bk_ BK157)); replace BK157 := ak_ (blk_below (bk_ BK157) hb); clear hb hbox hg; have hnb27 := NB162_157.out; have hnc27 := NB157_162.out; obtain ⟨hcz28_0, hcz28_1, hcz28_2, hfz28_0, hfz28_1, hfz28_2⟩ := bc3_ BK162.out))
              have n0_ : Aside0 ((((w26.setCell ⟨gb162, 0, none⟩ (.int .i64 ((rd_T67 l0_0 x4_1).f0))).setCell ⟨gb162, 1, none⟩ (.int .i64 ((rd_T67 l0_0 x4_1).f1))).setCell ⟨gb162, 2, none⟩ (.int .i64 ((rd_T67 l0_0 x4_1).f2))).heap[gb157]? = some (.cells #[.slice (some ad161) l0_0.length c0_0, .int .i64 a0_1, .int .i64 a0_2] 35 (0, 0))) := ⟨by (with_reducible repeat (first | refine blk_drewN ?_ _ | refine blk_drew ?_ | refine blk_alloc ?_ _)); refine blk_far ?_ NB157_162.out _; (with_reducible repeat (first | refine blk_drewN ?_ _ | refine blk_drew ?_ | refine blk_alloc ?_ _)); refine blk_far ?_ NB157_162.out _; (with_reducible repeat (first | refine blk_drewN ?_ _ | refine blk_drew ?_ | refine blk_alloc ?_ _)); refine blk_far ?_ NB157_162.out _; (with_reducible repeat (first | refine blk_drewN ?_ _ | refine blk_drew ?_ | refine blk_alloc ?_ _)); exact BK157.out⟩
              have n1_ : Aside0 ((((w26.setCell ⟨gb162, 0, none⟩ (.int .i64 ((rd_T67 l0_0 x4_1).f0))).setCell ⟨gb162, 1, none⟩ (.int .i64 ((rd_T67 l0_0 x4_1).f1))).setCell ⟨gb162, 2, none⟩ (.int .i64 ((rd_T67 l0_0 x4_1).f2))).heap[gb162]? = some (.cells #[.int .i64 ((rd_T67 l0_0 x4_1).f0), .int .i64 ((rd_T67 l0_0 x4_1).f1), .int .i64 ((rd_T67 l0_0 x4_1).f2)] 67 (0, 0))) := ⟨by (with_reducible repeat (first | refine blk_drewN ?_ _ | refine blk_drew ?_ | refine blk_alloc ?_ _)); refine blk_put (cs := #[.int .i64 ((rd_T67 l0_0 x4_1).f0), .int .i64 ((rd_T67 l0_0 x4_1).f1), .int .i64 0]) ?_ 2 _ rfl; (with_reducible repeat (first | refine blk_drewN ?_ _ | refine blk_drew ?_ | refine blk_alloc ?_ _)); refine blk_put (cs := #[.int .i64 ((rd_T67 l0_0 x4_1).f0), .int .i64 0, .int .i64 0]) ?_ 1 _ rfl; (with_reducible repeat (first | refine blk_drewN ?_ _ | refine blk_drew ?_ | refine blk_alloc ?_ _)); refine blk_put (cs := #[.int .i64 0, .int .i64 0, .int .i64 0]) ?_ 0 _ rfl; (with_reducible repeat (first | refine blk_drewN ?_ _ | refine blk_drew ?_ | refine blk_alloc ?_ _)); exact BK162.out⟩
              have n2_ : Aside0 (Below w.heap.size w (((w26.setCell ⟨gb162, 0, none⟩ (.int .i64 ((rd_T67 l0_0 x4_1).f0))).setCell ⟨gb162, 1, none⟩ (.int .i64 ((rd_T67 l0_0 x4_1).f1))).setCell ⟨gb162, 2, none⟩ (.int .i64 ((rd_T67 l0_0 x4_1).f2)))) := ⟨hb_⟩
              (try clear BK157)
              (try clear BK162)
              (try clear HB)
              generalize (((w26.setCell ⟨gb162, 0, none⟩ (.int .i64 ((rd_T67 l0_0 x4_1).f0))).setCell ⟨gb162, 1, none⟩ (.int .i64 ((rd_T67 l0_0 x4_1).f1))).setCell ⟨gb162, 2, none⟩ (.int .i64 ((rd_T67 l0_0 x4_1).f2))) = w29 at n0_ n1_ n2_ ⊢
              have BK157 := n0_
              have BK162 := n1_
              have HB := n2_
              clear n0_ n1_ n2_
              replace BK157 := ak_ (blk_drew BK157.out)
              replace BK162 := ak_ (blk_drew BK162.out)
              replace HB := ak_ (below_drew1 HB.out)
              refine start_ (n := 17) (S := fun w' => w'.cell? ⟨gb162, 0, none⟩ = some (.int .i64 ((rd_T67 l0_0 x4_1).f0)) ∧ w'.cell? ⟨gb162, 1, none⟩ = some (.int .i64 ((rd_T67 l0_0 x4_1).f1)) ∧ w'.cell? ⟨gb162, 2, none⟩ = some (.int .i64 ((rd_T67 l0_0 x4_1).f2))) (ds := []) #[false, false, false, false, false, false, false, false, false, false, false, false, false, false, false, false, false] (by kernel_rfl) rfl rfl ⟨(blk_cell BK162.out 0).trans rfl, (blk_cell BK162.out 1).trans rfl, (blk_cell BK162.out 2).trans rfl⟩ (fun hHeld => ?_); refine with_tabW spec_SideText.tab8 spec_SideText.bits8 (fun HT_ HW_ => ?_)
              generalize w29.drew = w30 at BK157 BK162 HB hHeld ⊢
              refine pure_ (i := 0) (N := some 29) (v := ?_) (a' := ?_) #[true, false, false, false, false, false, false, false, false, false, false, false, false, false, false, false, false] rfl rfl (any_of HT_.out (by kernel_rfl)) (fun _ _ _ h => h) (Or.inl ⟨by rfl, ?_⟩) ?_ ?_; rotate_left; (intro w'; go_simp; with_reducible rfl); rotate_left; (simp only [Act.put, List.setIfInBounds_toArray, List.set_cons_zero, List.set_cons_succ, i64_w, i32_w]; rfl)
              refine pure_ (i := 1) (N := some 30) (v := ?_) (a' := ?_) #[true, true, false, false, false, false, false, false, false, false, false, false, false, false, false, false, false] rfl rfl (any_of HT_.out (by kernel_rfl)) (fun _ _ _ h => h) (Or.inl ⟨by rfl, ?_⟩) ?_ ?_; rotate_left; (intro w'; go_simp; with_reducible rfl); rotate_left; (simp only [Act.put, List.setIfInBounds_toArray, List.set_cons_zero, List.set_cons_succ, i64_w, i32_w]; rfl)
              refine pure_ (i := 2) (N := some 31) (v := ?_) (a' := ?_) #[true, true, true, false, false, false, false, false, false, false, false, false, false, false, false, false, false] rfl rfl (any_of HT_.out (by kernel_rfl)) (fun _ _ _ h => h) (Or.inl ⟨by rfl, ?_⟩) ?_ ?_; rotate_left; (intro w'; go_simp; with_reducible rfl); rotate_left; (simp only [Act.put, List.setIfInBounds_toArray, List.set_cons_zero, List.set_cons_succ, i64_w, i32_w]; rfl)
              refine pure_ (i := 7) (N := some 36) (v := ?_) (a' := ?_) #[true, true, true, false, false, false, false, true, false, false, false, false, false, false, false, false, false] rfl rfl (any_of HT_.out (by kernel_rfl)) (fun _ _ _ h => h) (Or.inl ⟨by rfl, ?_⟩) ?_ ?_; rotate_left; (intro w'; go_simp; with_reducible rfl); rotate_left; (simp only [Act.put, List.setIfInBounds_toArray, List.set_cons_zero, List.set_cons_succ, i64_w, i32_w]; rfl)
              refine pure_ (i := 12) (N := some 41) (v := ?_) (a' := ?_) #[true, true, true, false, false, false, false, true, false, false, false, false, true, false, false, false, false] rfl rfl (any_of HT_.out (by kernel_rfl)) (fun _ _ _ h => h) (Or.inl ⟨by rfl, ?_⟩) ?_ ?_; rotate_left; (intro w'; go_simp; with_reducible rfl); rotate_left; (simp only [Act.put, List.setIfInBounds_toArray, List.set_cons_zero, List.set_cons_succ, i64_w, i32_w]; rfl)
              refine take_ (i := 3) (N := some 32) (v := ?_) (a' := ?_) #[true, true, true, true, false, false, false, true, false, false, false, false, true, false, false, false, false] rfl rfl (take_ofW HT_.out HW_.out (by kernel_rfl)) (fun _ _ _ h => h) (Or.inl ⟨by rfl, ?_⟩) hHeld ?_ ?_; rotate_left; (rintro w' ⟨s0, s1, s2⟩; go_simp; with_reducible rfl); rotate_left; (simp only [Act.put, List.setIfInBounds_toArray, List.set_cons_zero, List.set_cons_succ, i64_w, i32_w]; rfl)
              refine take_ (i := 8) (N := some 37) (v := ?_) (a' := ?_) #[true, true, true, true, false, false, false, true, true, false, false, false, true, false, false, false, false] rfl rfl (take_ofW HT_.out HW_.out (by kernel_rfl)) (fun _ _ _ h => h) (Or.inl ⟨by rfl, ?_⟩) hHeld ?_ ?_; rotate_left; (rintro w' ⟨s0, s1, s2⟩; go_simp; with_reducible rfl); rotate_left; (simp only [Act.put, List.setIfInBounds_toArray, List.set_cons_zero, List.set_cons_succ, i64_w, i32_w]; rfl)
              refine take_ (i := 13) (N := some 42) (v := ?_) (a' := ?_) #[true, true, true, true, false, false, false, true, true, false, false, false, true, true, false, false, false] rfl rfl (take_ofW HT_.out HW_.out (by kernel_rfl)) (fun _ _ _ h => h) (Or.inl ⟨by rfl, ?_⟩) hHeld ?_ ?_; rotate_left; (rintro w' ⟨s0, s1, s2⟩; go_simp; with_reducible rfl); rotate_left; (simp only [Act.put, List.setIfInBounds_toArray, List.set_cons_zero, List.set_cons_succ, i64_w, i32_w]; rfl)
              refine one_ (i := 4) (N := some 33) #[true, true, true, true, true, false, false, true, true, false, false, false, true, true, false, false, false] rfl rfl (one_of HT_.out (by kernel_rfl)) (by decide) (fun K hK => ?_)
              refine goes_ Tryd.func24 (by kernel_rfl) rfl #[.int .i64 ((rd_T67 l0_0 x4_1).f0)] (by rfl) rfl rfl (ma1_ rfl) ?_
              with_reducible refine (spec_l01Num.calls k1 ((rd_T67 l0_0 x4_1).f0) t163 _ A17.out).mono ?_
              rintro e w31 ⟨rfl, hb⟩
              refine ⟨_, rfl, ?_⟩
              replace BK157 := ak_ (blk_below (bk_ BK157) hb)
              replace BK162 := ak_ (blk_below (bk_ BK162) hb)
              replace HB := ak_ (below_step hb_ hb)
              (try clear hb)
              (try clear hb2)
              (try clear hk)
              (try clear hi)
              refine hK.out _ _ ⟨(blk_cell BK162.out 0).trans rfl, (blk_cell BK162.out 1).trans rfl, (blk_cell BK162.out 2).trans rfl⟩ (fun hHeld => ?_)
              clear hK K
              refine norm_ (a' := ?_) ?_ ?_
              rotate_left
              ·show Act.put _ (some 33) _ = _
               simp only [Act.put, List.setIfInBounds_toArray, List.set_cons_zero, List.set_cons_succ, i64_w, i32_w]
               rfl
              refine pure_ (i := 5) (N := some 34) (v := ?_) (a' := ?_) #[true, true, true, true, true, true, false, true, true, false, false, false, true, true, false, false, false] rfl rfl (any_of HT_.out (by kernel_rfl)) (fun _ _ _ h => h) (Or.inl ⟨by rfl, ?_⟩) ?_ ?_; rotate_left; (intro w'; go_simp; with_reducible rfl); rotate_left; (simp only [Act.put, List.setIfInBounds_toArray, List.set_cons_zero, List.set_cons_succ, i64_w, i32_w]; rfl)
              refine pure_ (i := 6) (N := some 35) (v := ?_) (a' := ?_) #[true, true, true, true, true, true, true, true, true, false, false, false, true, true, false, false, false] rfl rfl (any_of HT_.out (by kernel_rfl)) (fun _ _ _ h => h) (Or.inl ⟨by rfl, ?_⟩) ?_ ?_; rotate_left; (intro w'; go_simp; with_reducible rfl); rotate_left; (simp only [Act.put, List.setIfInBounds_toArray, List.set_cons_zero, List.set_cons_succ, i64_w, i32_w]; rfl)
              refine one_ (i := 9) (N := some 38) #[true, true, true, true, true, true, true, true, true, true, false, false, true, true, false, false, false] rfl rfl (one_of HT_.out (by kernel_rfl)) (by decide) (fun K hK => ?_)
              refine goes_ Tryd.func24 (by kernel_rfl) rfl #[.int .i64 ((rd_T67 l0_0 x4_1).f1)] (by rfl) rfl rfl (ma1_ rfl) ?_
              with_reducible refine (spec_l01Num.calls k1 ((rd_T67 l0_0 x4_1).f1) t164 _ A20.out).mono ?_
              rintro e w32 ⟨rfl, hb⟩
              refine ⟨_, rfl, ?_⟩
              replace BK157 := ak_ (blk_below (bk_ BK157) hb)
              replace BK162 := ak_ (blk_below (bk_ BK162) hb)
              replace HB := ak_ (below_step hb_ hb)
              (try clear hb)
              (try clear hb2)
              (try clear hk)
              (try clear hi)
              refine hK.out _ _ ⟨(blk_cell BK162.out 0).trans rfl, (blk_cell BK162.out 1).trans rfl, (blk_cell BK162.out 2).trans rfl⟩ (fun hHeld => ?_)
              clear hK K
              refine norm_ (a' := ?_) ?_ ?_
              rotate_left
              ·show Act.put _ (some 38) _ = _
               simp only [Act.put, List.setIfInBounds_toArray, List.set_cons_zero, List.set_cons_succ, i64_w, i32_w]
               rfl
              refine pure_ (i := 10) (N := some 39) (v := ?_) (a' := ?_) #[true, true, true, true, true, true, true, true, true, true, true, false, true, true, false, false, false] rfl rfl (any_of HT_.out (by kernel_rfl)) (fun _ _ _ h => h) (Or.inl ⟨by rfl, ?_⟩) ?_ ?_; rotate_left; (intro w'; go_simp; with_reducible rfl); rotate_left; (simp only [Act.put, List.setIfInBounds_toArray, List.set_cons_zero, List.set_cons_succ, i64_w, i32_w]; rfl)
              refine pure_ (i := 11) (N := some 40) (v := ?_) (a' := ?_) #[true, true, true, true, true, true, true, true, true, true, true, true, true, true, false, false, false] rfl rfl (any_of HT_.out (by kernel_rfl)) (fun _ _ _ h => h) (Or.inl ⟨by rfl, ?_⟩) ?_ ?_; rotate_left; (intro w'; go_simp; with_reducible rfl); rotate_left; (simp only [Act.put, List.setIfInBounds_toArray, List.set_cons_zero, List.set_cons_succ, i64_w, i32_w]; rfl)
              refine one_ (i := 14) (N := some 43) #[true, true, true, true, true, true, true, true, true, true, true, true, true, true, true, false, false] rfl rfl (one_of HT_.out (by kernel_rfl)) (by decide) (fun K hK => ?_)
              refine goes_ Tryd.func24 (by kernel_rfl) rfl #[.int .i64 ((rd_T67 l0_0 x4_1).f2)] (by rfl) rfl rfl (ma1_ rfl) ?_
              with_reducible refine (spec_l01Num.calls k1 ((rd_T67 l0_0 x4_1).f2) t165 _ A23.out).mono ?_
              rintro e w33 ⟨rfl, hb⟩
              refine ⟨_, rfl, ?_⟩
              replace BK157 := ak_ (blk_below (bk_ BK157) hb)
              replace BK162 := ak_ (blk_below (bk_ BK162) hb)
              replace HB := ak_ (below_step hb_ hb)
              (try clear hb)
              (try clear hb2)
              (try clear hk)
              (try clear hi)
              refine hK.out _ _ ⟨(blk_cell BK162.out 0).trans rfl, (blk_cell BK162.out 1).trans rfl, (blk_cell BK162.out 2).trans rfl⟩ (fun hHeld => ?_)
              clear hK K
              refine norm_ (a' := ?_) ?_ ?_
              rotate_left
              ·show Act.put _ (some 43) _ = _
               simp only [Act.put, List.setIfInBounds_toArray, List.set_cons_zero, List.set_cons_succ, i64_w, i32_w]
               rfl
              refine pure_ (i := 15) (N := some 44) (v := ?_) (a' := ?_) #[true, true, true, true, true, true, true, true, true, true, true, true, true, true, true, true, false] rfl rfl (any_of HT_.out (by kernel_rfl)) (fun _ _ _ h => h) (Or.inl ⟨by rfl, ?_⟩) ?_ ?_; rotate_left; (intro w'; go_simp; with_reducible rfl); rotate_left; (simp only [Act.put, List.setIfInBounds_toArray, List.set_cons_zero, List.set_cons_succ, i64_w, i32_w]; rfl)
              refine pure_ (i := 16) (N := some 3) (v := ?_) (a' := ?_) #[true, true, true, true, true, true, true, true, true, true, true, true, true, true, true, true, true] rfl rfl (any_of HT_.out (by kernel_rfl)) (fun _ _ _ h => h) (Or.inl ⟨by rfl, ?_⟩) ?_ ?_; rotate_left; (intro w'; go_simp; with_reducible rfl); rotate_left; (simp only [Act.put, List.setIfInBounds_toArray, List.set_cons_zero, List.set_cons_succ, i64_w, i32_w]; rfl)
              refine done_ (done_of HT_.out (by kernel_rfl)) ?_
              try go_wp2
              go_roundg k1
              case measure => have := HK1.out; omega
              case rel => exact ⟨((((((x3_1 ++ (⟨#[32]⟩ : ByteArray)) ++ t163) ++ (⟨#[58]⟩ : ByteArray)) ++ t164) ++ (⟨#[58]⟩ : ByteArray)) ++ t165), (wrap64 (x4_1 + 1)), (by first | rfl | (simp; done) | (simp [*]; done)), (by first | rfl | (simp; done) | (simp [*]; done)), H', ⟨by have := HK1.out; omega⟩, ⟨by (with_reducible repeat (first | refine blk_drewN ?_ _ | refine blk_drew ?_ | refine blk_alloc ?_ _)); exact BK157.out⟩, ⟨hb_⟩⟩
             ·rw [if_neg c24] at H
              exact absurd H (by simp)
            ·rw [if_neg c22] at H
             exact absurd H (by simp)
           ·rw [if_neg c21] at H
            exact absurd H (by simp)
          ·rw [if_neg c19] at H
           exact absurd H (by simp)
         ·rw [if_neg c18] at H
          exact absurd H (by simp)
        ·rw [if_neg c16] at H
         exact absurd H (by simp)
       ·rw [if_neg c15] at H
        exact absurd H (by simp)
      ·rw [if_neg c14] at H
       have c14b0 : decide (x4_1 < (l0_0.length : Int)) = false := decide_eq_false c14
       clear c14
       obtain rfl := Option.some.inj H
       obtain ⟨hcz34_0, hcz34_1, hcz34_2, hfz34_0, hfz34_1, hfz34_2⟩ := bc3_ BK157.out
       go_wp2
       go_ret
       exact ⟨ew_, hb_⟩
   ·rw [if_neg c7] at H
    exact absurd H (by simp)
  ·rw [if_neg c5] at H
   exact absurd H (by simp)
 ·replace c3 := Bool.eq_false_iff.mpr c3
  subst c3
  rw [if_neg (show ¬ (false = true) by decide)] at H
  obtain rfl := Option.some.inj H
  go_enter Tryd.func11, Tryd.ntmps11
  go_wp2_with (first | ((with_reducible refine gate_dst (N := 1) rfl ?_); refine be_ (N := 1) (cs := #[.slice A0_0 l0_0.length c0_0, .int .i64 a0_1, .int .i64 a0_2]) (t := 35) ?_; intro gb157 hg w35 hbox hb; have BK157 := ak_ hbox; have GW157 := ak_ ((gs_ hg : w.heap.size ≤ gb157)); have GE157 := ak_ ((gs_ hg : w.heap.size ≤ gb157)); replace HB := ak_ (below_step hb_ hb); clear hb hbox hg; obtain ⟨hcz36_0, hcz36_1, hcz36_2, hfz36_0, hfz36_1, hfz36_2⟩ := bc3_ BK157.out) | ((with_reducible refine gate_callee (f := 28) rfl ?_); refine goesL_ (some 7) rfl rfl Tryd.func28 (by kernel_rfl) rfl #[.agg #[.slice A0_0 l0_0.length c0_0, .int .i64 a0_1, .int .i64 a0_2]] rfl (ma1_ rfl) ?_; (with_reducible refine (spec_SideOk.calls k _ _ l0_0 a0_1 a0_2 false _ ?side1 ?side2 A2.out).mono ?_); (case side1 => exact kc_ HR0_0); (case side2 => exact HC0_0.out); rintro e w37 ⟨rfl, hb⟩; refine ⟨_, rfl, ?_⟩; replace BK157 := ak_ (blk_below (bk_ BK157) hb); replace HB := ak_ (below_step hb_ hb); (try clear hb)))
  go_ret
  exact ⟨ew_, hb_⟩

end Go.Proofs.YtblfoelddakelaaDoor.U
