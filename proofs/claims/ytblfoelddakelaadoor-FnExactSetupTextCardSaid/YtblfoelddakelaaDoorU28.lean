-- PRINTED by print.py (a twelfth state) out of the translation. Not trusted: Lean checks it.
import Derived.Test.YtblfoelddakelaaDoorU0
import Derived.Test.YtblfoelddakelaaDoorU8
namespace Go.Proofs.YtblfoelddakelaaDoor.U
open Go.RowKit Go.Proofs.YtblfoelddakelaaDoorW.PrintWords Go.Proofs.YtblfoelddakelaaDoorW.PrintLast Go.Proofs.YtblfoelddakelaaDoorW.PrintMore
attribute [local go_sem] max2_int min2_int max_two min_two max_three min_three max_four min_four   -- for this text's walks alone
set_option linter.unusedVariables false
set_option linter.unusedSimpArgs false

/-! ### strconv_Itoa: function 51 -/
def strconv_Itoa.f (a0 : Int) : Option (ByteArray) := if -9223372036854775808 ≤ a0 ∧ a0 ≤ 9223372036854775807 then some ⟨(Lib.itoa a0).toArray⟩ else none
theorem strconv_Itoa.calls (a0 : Int) (r : ByteArray) (w : World) (hL : Lay w) (h : strconv_Itoa.f a0 = some r) :
    Calls Tryd.prog 51 #[.int .i64 a0] w fun e w' => e = .returned (.string r) ∧ Below w.heap.size w w' := by
  unfold strconv_Itoa.f at h
  by_cases hb : -9223372036854775808 ≤ a0 ∧ a0 ≤ 9223372036854775807
  · rw [if_pos hb] at h
    obtain rfl := Option.some.inj h
    refine (Tryd.strconv_Itoa a0 hb.1 hb.2 w hL).mono ?_
    rintro e w' ⟨rfl, k, os, rfl⟩
    exact ⟨rfl, grow_below⟩
  · rw [if_neg hb] at h
    cases h

/-! ### impl_isValue: function 79 -/
def impl_isValue.f (a0 : Int) : Option (Bool) := (impl_in.f a0 (-1000000000) 1000000000).bind fun t363 => (some t363)
set_option maxHeartbeats 8000000 in
set_option maxRecDepth 100000 in
theorem impl_isValue.calls (a0 : Int) (r : Bool) (w : World) (h : impl_isValue.f a0 = some r) :
  Calls Tryd.prog 79 #[.int .i64 a0] w fun e w' => e = .returned (.bool r) ∧ Drawn0 w w' := by
 have H : ((impl_in.f a0 (-1000000000) 1000000000).bind fun t363 => (some t363)) = some r := h
 clear h
 replace H := Option.bind_eq_some_iff.mp H
 obtain ⟨t363, A20, H⟩ := H
 replace H : (some t363) = some r := H
 have A2 := Aside0.mk A20
 clear A20
 obtain rfl := Option.some.inj H
 go_enter Tryd.func79, Tryd.ntmps79
 go_wp2_with (first | ((with_reducible refine gate_callee (f := 47) rfl ?_); refine goesL_ (some 4) rfl rfl Tryd.func47 (by kernel_rfl) rfl #[.int .i64 a0, .int .i64 (-1000000000), .int .i64 1000000000] rfl (ma3_ rfl rfl rfl) ?_; (with_reducible refine (impl_in.calls a0 (-1000000000) 1000000000 t363 _ A2.out).mono ?_); rintro e w' ⟨rfl, ⟨nd, rfl⟩⟩; refine ⟨_, rfl, ?_⟩))
 go_ret
 exact ⟨by first | rfl | (simp; done) | (simp [*]; done), by repeat (first | exact Drawn0.refl _ | apply Drawn0.step)⟩

/-! ### strings_TrimRight: function 80 -/
def strings_TrimRight.f (a0 : ByteArray) (a1 : ByteArray) : Option (ByteArray) := if a1 = ⟨#[48]⟩ ∧ a0.size ≤ 9223372036854775807 then some ⟨(Lib.trimRightB a0.data.toList 48).toArray⟩ else none
theorem strings_TrimRight.calls (a0 : ByteArray) (a1 : ByteArray) (r : ByteArray) (w : World) (h : strings_TrimRight.f a0 a1 = some r) :
    Calls Tryd.prog 80 #[.string a0, .string a1] w fun e w' => e = .returned (.string r) ∧ Below w.heap.size w w' := by
  unfold strings_TrimRight.f at h
  by_cases hb : a1 = ⟨#[48]⟩ ∧ a0.size ≤ 9223372036854775807
  · rw [if_pos hb] at h
    obtain rfl := Option.some.inj h
    obtain ⟨rfl, hs⟩ := hb
    refine (Tryd.strings_TrimRight_one a0 48 (by decide) w hs).mono ?_
    rintro e w' ⟨rfl, rfl⟩
    exact ⟨rfl, Below.refl _ _⟩
  · rw [if_neg hb] at h
    cases h

/-! ### impl_MilliText: function 67 -/
def impl_MilliText.j0 : Nat → Int → ByteArray → Option (ByteArray)
  | 0, _, _ => none
  | k + 1, x0, x3 => (strconv_Itoa.f (wrap64 (Int.tdiv x0 1000))).bind fun t365 => (if x3.size + t365.size ≤ 9223372036854775807 then (if (Int.tmod x0 1000) = 0 then (some (x3 ++ t365)) else (if (x3 ++ t365).size + 1 ≤ 9223372036854775807 then ((strconv_Itoa.f (wrap64 (1000 + (Int.tmod x0 1000)))).bind fun t366 => (if 1 ≤ (t366.size : Int) then ((strings_TrimRight.f (t366.extract 1 t366.size) (⟨#[48]⟩ : ByteArray)).bind fun t367 => (if ((x3 ++ t365) ++ (⟨#[46]⟩ : ByteArray)).size + t367.size ≤ 9223372036854775807 then (some (((x3 ++ t365) ++ (⟨#[46]⟩ : ByteArray)) ++ t367)) else (none))) else (none))) else (none))) else (none))
def impl_MilliText.f (k : Nat) (a0 : Int) : Option (ByteArray) := (impl_isValue.f a0).bind fun t364 => (if t364 = true then (if a0 < 0 then (impl_MilliText.j0 k (wrap64 (-a0)) (⟨#[45]⟩ : ByteArray)) else (impl_MilliText.j0 k a0 (⟨#[]⟩ : ByteArray))) else (some (⟨#[]⟩ : ByteArray)))
theorem impl_MilliText.mono_l : ∀ k, (∀ y0 y1, LeO (impl_MilliText.j0 k y0 y1) (impl_MilliText.j0 (k + 1) y0 y1))
  | 0 => fun _ _ r h => by simp [impl_MilliText.j0] at h
  | k + 1 => by
    have ih0 := impl_MilliText.mono_l k
    · intro y0 y1
      unfold impl_MilliText.j0
      repeat' with_reducible first | exact ih0 _ _ | exact LeO.refl _ | exact LeO.none _ | refine LeO.ite ?_ ?_ | refine LeO.bind ?_ (fun _ => ?_)
theorem impl_MilliText.mono : ∀ a0 k, LeO (impl_MilliText.f k a0) (impl_MilliText.f (k + 1) a0) := by
  intro a0 k
  have ih0 := impl_MilliText.mono_l k
  unfold impl_MilliText.f
  repeat' with_reducible first | exact ih0 _ _ | exact LeO.refl _ | exact LeO.none _ | refine LeO.ite ?_ ?_ | refine LeO.bind ?_ (fun _ => ?_)
set_option maxHeartbeats 8000000 in
set_option maxRecDepth 100000 in
theorem impl_MilliText.calls (k : Nat) (a0 : Int) (r : ByteArray) (w : World) (hL : Lay w) (h : impl_MilliText.f k a0 = some r) :
  Calls Tryd.prog 67 #[.int .i64 a0] w fun e w' => e = .returned (.string r) ∧ Below w.heap.size w w' := by
 have HLAY := Aside0.mk hL
 clear hL
 have HB := Aside0.mk (Below.refl w.heap.size w)
 have H : ((impl_isValue.f a0).bind fun t364 => (if t364 = true then (if a0 < 0 then (impl_MilliText.j0 k (wrap64 (-a0)) (⟨#[45]⟩ : ByteArray)) else (impl_MilliText.j0 k a0 (⟨#[]⟩ : ByteArray))) else (some (⟨#[]⟩ : ByteArray)))) = some r := h
 clear h
 replace H := Option.bind_eq_some_iff.mp H
 obtain ⟨t364, A20, H⟩ := H
 replace H : (if t364 = true then (if a0 < 0 then (impl_MilliText.j0 k (wrap64 (-a0)) (⟨#[45]⟩ : ByteArray)) else (impl_MilliText.j0 k a0 (⟨#[]⟩ : ByteArray))) else (some (⟨#[]⟩ : ByteArray))) = some r := H
 have A2 := Aside0.mk A20
 clear A20
 by_cases c3 : t364 = true
 ·subst c3
  rw [if_pos rfl] at H
  have HC4 := Aside0.mk H
  clear H
  go_enter Tryd.func67, Tryd.ntmps67
  go_upto_if 8 with (first | ((with_reducible refine gate_callee (f := 79) rfl ?_); refine goesL_ (some 5) rfl rfl Tryd.func79 (by kernel_rfl) rfl #[.int .i64 a0] rfl (ma1_ rfl) ?_; (with_reducible refine (impl_isValue.calls a0 true _ A2.out).mono ?_); rintro e w' ⟨rfl, ⟨nd, rfl⟩⟩; refine ⟨_, rfl, ?_⟩))
  (try simp only [Act.put, List.setIfInBounds_toArray, List.set_cons_zero, List.set_cons_succ])
  go_cut [0, 3] (fun v0 v3 wc => ∃ (kq : Nat) (x0_3 : Int) (x3_3 : ByteArray), v0 = .int .i64 x0_3 ∧ v3 = .string x3_3 ∧ Aside0 (impl_MilliText.j0 kq x0_3 x3_3 = some r) ∧ Aside0 (kq ≤ k) ∧ Aside0 (Below w.heap.size w wc))
  case first =>
   have H := HC4.out
   clear HC4
   by_cases c5 : a0 < 0
   ·rw [if_pos c5] at H
    have c5b0 : decide (a0 < 0) = true := decide_eq_true c5
    clear c5
    (first | rw [c5b0] | (simp only [i64_w, i32_w]; rw [c5b0]) | skip)
    have H' := Aside0.mk H
    clear H
    go_wp2
    go_meet
    case rel => exact ⟨_, (wrap64 (-a0)), ((⟨#[45]⟩ : ByteArray)), (by first | rfl | (simp; done) | (simp [*]; done)), (by first | rfl | (simp; done) | (simp [*]; done)), H', ⟨by first | omega | exact Nat.le_refl _⟩, ⟨hb_⟩⟩
   ·rw [if_neg c5] at H
    have c5b0 : decide (a0 < 0) = false := decide_eq_false c5
    clear c5
    (first | rw [c5b0] | (simp only [i64_w, i32_w]; rw [c5b0]) | skip)
    have H' := Aside0.mk H
    clear H
    go_wp2
    go_meet
    case rel => exact ⟨_, (a0), ((⟨#[]⟩ : ByteArray)), (by first | rfl | (simp; done) | (simp [*]; done)), (by first | rfl | (simp; done) | (simp [*]; done)), H', ⟨by first | omega | exact Nat.le_refl _⟩, ⟨hb_⟩⟩
  case rest =>
   clear HC4
   try clear p2
   try clear c3
   try clear c5
   try clear c5b0
   obtain ⟨kq, x0_3, x3_3, rfl, rfl, HA, HJ3, HB⟩ := hcut
   cases kq with
   | zero => exact absurd HA.out (by simp [impl_MilliText.j0])
   | succ kj3 =>
    have H := HA.out
    clear HA
    simp only [impl_MilliText.j0] at H
    replace H := Option.bind_eq_some_iff.mp H
    obtain ⟨t365, A60, H⟩ := H
    replace H : (if x3_3.size + t365.size ≤ 9223372036854775807 then (if (Int.tmod x0_3 1000) = 0 then (some (x3_3 ++ t365)) else (if (x3_3 ++ t365).size + 1 ≤ 9223372036854775807 then ((strconv_Itoa.f (wrap64 (1000 + (Int.tmod x0_3 1000)))).bind fun t366 => (if 1 ≤ (t366.size : Int) then ((strings_TrimRight.f (t366.extract 1 t366.size) (⟨#[48]⟩ : ByteArray)).bind fun t367 => (if ((x3_3 ++ t365) ++ (⟨#[46]⟩ : ByteArray)).size + t367.size ≤ 9223372036854775807 then (some (((x3_3 ++ t365) ++ (⟨#[46]⟩ : ByteArray)) ++ t367)) else (none))) else (none))) else (none))) else (none)) = some r := H
    have A6 := Aside0.mk A60
    clear A60
    by_cases c7 : x3_3.size + t365.size ≤ 9223372036854775807
    ·rw [if_pos c7] at H
     have c7b0 := eq_true c7
     have c7b1 : decide (x3_3.size + t365.size ≤ 9223372036854775807) = true := decide_eq_true c7
     try have c7b2 : (9223372036854775807 < x3_3.size + t365.size) = False := eq_false (Nat.not_lt.2 c7)
     by_cases c8 : (Int.tmod x0_3 1000) = 0
     ·rw [if_pos c8] at H
      have c8b0 : ((Int.tmod x0_3 1000) == 0) = true := beq_iff_eq.mpr c8
      have c8b1 : ((Int.tmod x0_3 1000) != 0) = false := bne_eq_false_iff_eq.mpr c8
      clear c8
      obtain rfl := Option.some.inj H
      go_wp2_with (first | ((with_reducible refine gate_callee (f := 51) rfl ?_); refine goesL_ (some 14) rfl rfl Tryd.func51 (by kernel_rfl) rfl #[.int .i64 (wrap64 (Int.tdiv x0_3 1000))] rfl (ma1_ rfl) ?_; (with_reducible refine (strconv_Itoa.calls (wrap64 (Int.tdiv x0_3 1000)) t365 _ ?sideL A6.out).mono ?_); (case sideL => refine lay_at HLAY.out ?_; repeat (first | (with_reducible first | exact HB.out | apply ba_ | apply bn_ | apply bd_) | exact HB.out)); rintro e w9 ⟨rfl, hb⟩; refine ⟨_, rfl, ?_⟩; replace HB := ak_ (below_step hb_ hb); (try clear hb)))
      go_ret
      exact ⟨ew_, hb_⟩
     ·rw [if_neg c8] at H
      have c8b0 : ((Int.tmod x0_3 1000) == 0) = false := beq_eq_false_iff_ne.mpr c8
      have c8b1 : ((Int.tmod x0_3 1000) != 0) = true := bne_iff_ne.mpr c8
      by_cases c10 : (x3_3 ++ t365).size + 1 ≤ 9223372036854775807
      ·rw [if_pos c10] at H
       have c10n3 := c10
       try simp only [ByteArray.size_append] at c10n3
       try have c10n4 := eq_true c10n3
       try have c10n5 := decide_eq_true c10n3
       try have c10n6 := eq_false (Nat.not_lt.2 c10n3)
       have c10b0 := eq_true c10
       have c10b1 : decide ((x3_3 ++ t365).size + 1 ≤ 9223372036854775807) = true := decide_eq_true c10
       try have c10b2 : (9223372036854775807 < (x3_3 ++ t365).size + 1) = False := eq_false (Nat.not_lt.2 c10)
       replace H := Option.bind_eq_some_iff.mp H
       obtain ⟨t366, A110, H⟩ := H
       replace H : (if 1 ≤ (t366.size : Int) then ((strings_TrimRight.f (t366.extract 1 t366.size) (⟨#[48]⟩ : ByteArray)).bind fun t367 => (if ((x3_3 ++ t365) ++ (⟨#[46]⟩ : ByteArray)).size + t367.size ≤ 9223372036854775807 then (some (((x3_3 ++ t365) ++ (⟨#[46]⟩ : ByteArray)) ++ t367)) else (none))) else (none)) = some r := H
       have A11 := Aside0.mk A110
       clear A110
       by_cases c12 : 1 ≤ (t366.size : Int)
       ·rw [if_pos c12] at H
        have c12b0 := eq_true c12
        have c12b1 : decide (1 ≤ (t366.size : Int)) = true := decide_eq_true c12
        clear c12
        replace H := Option.bind_eq_some_iff.mp H
        obtain ⟨t367, A130, H⟩ := H
        replace H : (if ((x3_3 ++ t365) ++ (⟨#[46]⟩ : ByteArray)).size + t367.size ≤ 9223372036854775807 then (some (((x3_3 ++ t365) ++ (⟨#[46]⟩ : ByteArray)) ++ t367)) else (none)) = some r := H
        have A13 := Aside0.mk A130
        clear A130
        by_cases c14 : ((x3_3 ++ t365) ++ (⟨#[46]⟩ : ByteArray)).size + t367.size ≤ 9223372036854775807
        ·rw [if_pos c14] at H
         have c14n3 := c14
         try simp only [ByteArray.size_append, show (⟨#[46]⟩ : ByteArray).size = 1 from rfl] at c14n3
         try have c14n4 := eq_true c14n3
         try have c14n5 := decide_eq_true c14n3
         try have c14n6 := eq_false (Nat.not_lt.2 c14n3)
         have c14b0 := eq_true c14
         have c14b1 : decide (((x3_3 ++ t365) ++ (⟨#[46]⟩ : ByteArray)).size + t367.size ≤ 9223372036854775807) = true := decide_eq_true c14
         try have c14b2 : (9223372036854775807 < ((x3_3 ++ t365) ++ (⟨#[46]⟩ : ByteArray)).size + t367.size) = False := eq_false (Nat.not_lt.2 c14)
         obtain rfl := Option.some.inj H
         go_wp2_with (first | ((with_reducible refine gate_callee (f := 51) rfl ?_); refine goesL_ (some 14) rfl rfl Tryd.func51 (by kernel_rfl) rfl #[.int .i64 (wrap64 (Int.tdiv x0_3 1000))] rfl (ma1_ rfl) ?_; (with_reducible refine (strconv_Itoa.calls (wrap64 (Int.tdiv x0_3 1000)) t365 _ ?sideL A6.out).mono ?_); (case sideL => refine lay_at HLAY.out ?_; repeat (first | (with_reducible first | exact HB.out | apply ba_ | apply bn_ | apply bd_) | exact HB.out)); rintro e w15 ⟨rfl, hb⟩; refine ⟨_, rfl, ?_⟩; replace HB := ak_ (below_step hb_ hb); (try clear hb)) | ((with_reducible refine gate_callee (f := 51) rfl ?_); refine goesL_ (some 25) rfl rfl Tryd.func51 (by kernel_rfl) rfl #[.int .i64 (wrap64 (1000 + (Int.tmod x0_3 1000)))] rfl (ma1_ rfl) ?_; (with_reducible refine (strconv_Itoa.calls (wrap64 (1000 + (Int.tmod x0_3 1000))) t366 _ ?sideL A11.out).mono ?_); (case sideL => refine lay_at HLAY.out ?_; repeat (first | (with_reducible first | exact HB.out | apply ba_ | apply bn_ | apply bd_) | exact HB.out)); rintro e w16 ⟨rfl, hb⟩; refine ⟨_, rfl, ?_⟩; replace HB := ak_ (below_step hb_ hb); (try clear hb)) | ((with_reducible refine gate_callee (f := 80) rfl ?_); refine goesL_ (some 27) rfl rfl Tryd.func80 (by kernel_rfl) rfl #[.string (t366.extract 1 t366.size), .string (⟨#[48]⟩ : ByteArray)] rfl (ma2_ rfl rfl) ?_; (with_reducible refine (strings_TrimRight.calls (t366.extract 1 t366.size) (⟨#[48]⟩ : ByteArray) t367 _ A13.out).mono ?_); rintro e w17 ⟨rfl, hb⟩; refine ⟨_, rfl, ?_⟩; replace HB := ak_ (below_step hb_ hb); (try clear hb)))
         go_ret
         exact ⟨ew_, hb_⟩
        ·rw [if_neg c14] at H
         exact absurd H (by simp)
       ·rw [if_neg c12] at H
        exact absurd H (by simp)
      ·rw [if_neg c10] at H
       exact absurd H (by simp)
    ·rw [if_neg c7] at H
     exact absurd H (by simp)
 ·replace c3 := Bool.eq_false_iff.mpr c3
  subst c3
  rw [if_neg (show ¬ (false = true) by decide)] at H
  obtain rfl := Option.some.inj H
  go_enter Tryd.func67, Tryd.ntmps67
  go_wp2_with (first | ((with_reducible refine gate_callee (f := 79) rfl ?_); refine goesL_ (some 5) rfl rfl Tryd.func79 (by kernel_rfl) rfl #[.int .i64 a0] rfl (ma1_ rfl) ?_; (with_reducible refine (impl_isValue.calls a0 false _ A2.out).mono ?_); rintro e w' ⟨rfl, ⟨nd, rfl⟩⟩; refine ⟨_, rfl, ?_⟩))
  go_ret
  exact ⟨ew_, hb_⟩

end Go.Proofs.YtblfoelddakelaaDoor.U
