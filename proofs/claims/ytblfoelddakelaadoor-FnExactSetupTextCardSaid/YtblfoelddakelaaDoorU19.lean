-- PRINTED by print.py (a twelfth state) out of the translation. Not trusted: Lean checks it.
import Derived.Test.YtblfoelddakelaaDoorU0
import Derived.Test.YtblfoelddakelaaDoorU1
import Derived.Test.YtblfoelddakelaaDoorU18
namespace Go.Proofs.YtblfoelddakelaaDoor.U
open Go.RowKit Go.Proofs.YtblfoelddakelaaDoorW.PrintWords Go.Proofs.YtblfoelddakelaaDoorW.PrintLast Go.Proofs.YtblfoelddakelaaDoorW.PrintMore
attribute [local go_sem] max2_int min2_int max_two min_two max_three min_three max_four min_four   -- for this text's walks alone
set_option linter.unusedVariables false
set_option linter.unusedSimpArgs false

/-! ### spec_MilliText: function 60 -/
mutual
def spec_MilliText.j0 : Nat → Int → ByteArray → Option (ByteArray)
  | 0, _, _ => none
  | k + 1, x0, x3 => (spec_l01Num.f k (wrap64 (Int.tdiv x0 1000))).bind fun t266 => (if x3.size + t266.size ≤ 9223372036854775807 then (if (Int.tmod x0 1000) = 0 then (some (x3 ++ t266)) else (spec_MilliText.l0 k (x3 ++ t266) (([(wrap64 (48 + (wrap64 (Int.tdiv (Int.tmod x0 1000) 100)))) % 256, (wrap64 (48 + (wrap64 (Int.tdiv (Int.tmod x0 100) 10)))) % 256, (wrap64 (48 + (Int.tmod x0 10))) % 256] : List Int)) 3)) else (none))
def spec_MilliText.l0 : Nat → ByteArray → List Int → Int → Option (ByteArray)
  | 0, _, _, _ => none
  | k + 1, x3, x4, x5 => if 0 ≤ (wrap64 (x5 - 1)) then (if (wrap64 (x5 - 1)) < (x4.length : Int) then (if (rd x4 (wrap64 (x5 - 1))) = 48 then (spec_MilliText.l0 k x3 x4 (wrap64 (x5 - 1))) else (if x3.size + 1 ≤ 9223372036854775807 then (if 0 ≤ x5 then (if x5 ≤ (x4.length : Int) then ((some (x4.take (x5 : Int).toNat : List Int)).bind fun y271 => (if (x3 ++ (⟨#[46]⟩ : ByteArray)).size + (strOfNums y271).size ≤ 9223372036854775807 then (some ((x3 ++ (⟨#[46]⟩ : ByteArray)) ++ (strOfNums y271))) else (none))) else (none)) else (none)) else (none))) else (none)) else (none)
end
def spec_MilliText.f (k : Nat) (a0 : Int) : Option (ByteArray) := (spec_l01Value.f a0).bind fun t265 => (if t265 = true then (if a0 < 0 then (spec_MilliText.j0 k (wrap64 (-a0)) (⟨#[45]⟩ : ByteArray)) else (spec_MilliText.j0 k a0 (⟨#[]⟩ : ByteArray))) else (some (⟨#[]⟩ : ByteArray)))
theorem spec_MilliText.mono_l : ∀ k, (∀ y0 y1, LeO (spec_MilliText.j0 k y0 y1) (spec_MilliText.j0 (k + 1) y0 y1)) ∧ (∀ y0 y1 y2, LeO (spec_MilliText.l0 k y0 y1 y2) (spec_MilliText.l0 (k + 1) y0 y1 y2))
  | 0 => ⟨fun _ _ r h => by simp [spec_MilliText.j0] at h, fun _ _ _ r h => by simp [spec_MilliText.l0] at h⟩
  | k + 1 => by
    obtain ⟨ih0, ih1⟩ := spec_MilliText.mono_l k
    refine ⟨?_, ?_⟩
    · intro y0 y1
      unfold spec_MilliText.j0
      repeat' with_reducible first | exact ih0 _ _ | exact ih1 _ _ _ | exact spec_l01Num.mono _ _ | exact LeO.refl _ | exact LeO.none _ | refine LeO.ite ?_ ?_ | refine LeO.bind ?_ (fun _ => ?_)
    · intro y0 y1 y2
      unfold spec_MilliText.l0
      repeat' with_reducible first | exact ih0 _ _ | exact ih1 _ _ _ | exact spec_l01Num.mono _ _ | exact LeO.refl _ | exact LeO.none _ | refine LeO.ite ?_ ?_ | refine LeO.bind ?_ (fun _ => ?_)
theorem spec_MilliText.mono : ∀ a0 k, LeO (spec_MilliText.f k a0) (spec_MilliText.f (k + 1) a0) := by
  intro a0 k
  obtain ⟨ih0, ih1⟩ := spec_MilliText.mono_l k
  unfold spec_MilliText.f
  repeat' with_reducible first | exact ih0 _ _ | exact ih1 _ _ _ | exact spec_l01Num.mono _ _ | exact LeO.refl _ | exact LeO.none _ | refine LeO.ite ?_ ?_ | refine LeO.bind ?_ (fun _ => ?_)
set_option maxHeartbeats 8000000 in
set_option maxRecDepth 100000 in
theorem spec_MilliText.calls (k : Nat) (a0 : Int) (r : ByteArray) (w : World) (h : spec_MilliText.f k a0 = some r) :
  Calls Tryd.prog 60 #[.int .i64 a0] w fun e w' => e = .returned (.string r) ∧ Below w.heap.size w w' := by
 have HB := Aside0.mk (Below.refl w.heap.size w)
 have H : ((spec_l01Value.f a0).bind fun t265 => (if t265 = true then (if a0 < 0 then (spec_MilliText.j0 k (wrap64 (-a0)) (⟨#[45]⟩ : ByteArray)) else (spec_MilliText.j0 k a0 (⟨#[]⟩ : ByteArray))) else (some (⟨#[]⟩ : ByteArray)))) = some r := h
 clear h
 replace H := Option.bind_eq_some_iff.mp H
 obtain ⟨t265, A20, H⟩ := H
 replace H : (if t265 = true then (if a0 < 0 then (spec_MilliText.j0 k (wrap64 (-a0)) (⟨#[45]⟩ : ByteArray)) else (spec_MilliText.j0 k a0 (⟨#[]⟩ : ByteArray))) else (some (⟨#[]⟩ : ByteArray))) = some r := H
 have A2 := Aside0.mk A20
 clear A20
 by_cases c3 : t265 = true
 ·subst c3
  rw [if_pos rfl] at H
  have HC4 := Aside0.mk H
  clear H
  go_enter Tryd.func60, Tryd.ntmps60
  go_upto_if 10 with (first | ((with_reducible refine gate_callee (f := 76) rfl ?_); refine goesL_ (some 7) rfl rfl Tryd.func76 (by kernel_rfl) rfl #[.int .i64 a0] rfl (ma1_ rfl) ?_; (with_reducible refine (spec_l01Value.calls a0 true _ A2.out).mono ?_); rintro e w' ⟨rfl, ⟨nd, rfl⟩⟩; refine ⟨_, rfl, ?_⟩))
  (try simp only [Act.put, List.setIfInBounds_toArray, List.set_cons_zero, List.set_cons_succ])
  go_cut [0, 3] (fun v0 v3 wc => ∃ (kq : Nat) (x0_3 : Int) (x3_3 : ByteArray), v0 = .int .i64 x0_3 ∧ v3 = .string x3_3 ∧ Aside0 (spec_MilliText.j0 kq x0_3 x3_3 = some r) ∧ Aside0 (kq ≤ k) ∧ Aside0 (Below w.heap.size w wc))
  case first =>
   have H := HC4.out
   clear HC4
   by_cases c5 : a0 < 0
   ·rw [if_pos c5] at H
    have c5b0 : decide (a0 < 0) = true := decide_eq_true c5
    clear c5
    (first | rw [c5b0] | (simp only [i64_w, i32_w]; rw [c5b0]) | skip)
    have H' := Aside0.mk H
    clear H
    go_wp2
    go_meet
    case rel => exact ⟨_, (wrap64 (-a0)), ((⟨#[45]⟩ : ByteArray)), (by first | rfl | (simp; done) | (simp [*]; done)), (by first | rfl | (simp; done) | (simp [*]; done)), H', ⟨by first | omega | exact Nat.le_refl _⟩, ⟨hb_⟩⟩
   ·rw [if_neg c5] at H
    have c5b0 : decide (a0 < 0) = false := decide_eq_false c5
    clear c5
    (first | rw [c5b0] | (simp only [i64_w, i32_w]; rw [c5b0]) | skip)
    have H' := Aside0.mk H
    clear H
    go_wp2
    go_meet
    case rel => exact ⟨_, (a0), ((⟨#[]⟩ : ByteArray)), (by first | rfl | (simp; done) | (simp [*]; done)), (by first | rfl | (simp; done) | (simp [*]; done)), H', ⟨by first | omega | exact Nat.le_refl _⟩, ⟨hb_⟩⟩
  case rest =>
   clear HC4
   try clear p2
   try clear c3
   try clear c5
   try clear c5b0
   obtain ⟨kq, x0_3, x3_3, rfl, rfl, HA, HJ3, HB⟩ := hcut
   cases kq with
   | zero => exact absurd HA.out (by simp [spec_MilliText.j0])
   | succ kj3 =>
    have H := HA.out
    clear HA
    simp only [spec_MilliText.j0] at H
    replace H := Option.bind_eq_some_iff.mp H
    obtain ⟨t266, A60, H⟩ := H
    replace H : (if x3_3.size + t266.size ≤ 9223372036854775807 then (if (Int.tmod x0_3 1000) = 0 then (some (x3_3 ++ t266)) else (spec_MilliText.l0 kj3 (x3_3 ++ t266) (([(wrap64 (48 + (wrap64 (Int.tdiv (Int.tmod x0_3 1000) 100)))) % 256, (wrap64 (48 + (wrap64 (Int.tdiv (Int.tmod x0_3 100) 10)))) % 256, (wrap64 (48 + (Int.tmod x0_3 10))) % 256] : List Int)) 3)) else (none)) = some r := H
    have A6 := Aside0.mk A60
    clear A60
    by_cases c7 : x3_3.size + t266.size ≤ 9223372036854775807
    ·rw [if_pos c7] at H
     have c7b0 := eq_true c7
     have c7b1 : decide (x3_3.size + t266.size ≤ 9223372036854775807) = true := decide_eq_true c7
     try have c7b2 : (9223372036854775807 < x3_3.size + t266.size) = False := eq_false (Nat.not_lt.2 c7)
     by_cases c8 : (Int.tmod x0_3 1000) = 0
     ·rw [if_pos c8] at H
      have c8b0 : ((Int.tmod x0_3 1000) == 0) = true := beq_iff_eq.mpr c8
      have c8b1 : ((Int.tmod x0_3 1000) != 0) = false := bne_eq_false_iff_eq.mpr c8
      clear c8
      obtain rfl := Option.some.inj H
      go_wp2_with (first | ((with_reducible refine gate_callee (f := 24) rfl ?_); refine goesL_ (some 16) rfl rfl Tryd.func24 (by kernel_rfl) rfl #[.int .i64 (wrap64 (Int.tdiv x0_3 1000))] rfl (ma1_ rfl) ?_; (with_reducible refine (spec_l01Num.calls kj3 (wrap64 (Int.tdiv x0_3 1000)) t266 _ A6.out).mono ?_); rintro e w9 ⟨rfl, hb⟩; refine ⟨_, rfl, ?_⟩; replace HB := ak_ (below_step hb_ hb); (try clear hb)))
      go_ret
      exact ⟨ew_, hb_⟩
     ·rw [if_neg c8] at H
      have c8b0 : ((Int.tmod x0_3 1000) == 0) = false := beq_eq_false_iff_ne.mpr c8
      have c8b1 : ((Int.tmod x0_3 1000) != 0) = true := bne_iff_ne.mpr c8
      obtain ⟨y267, hy267⟩ : ∃ y_ : List Int, y_ = (([(wrap64 (48 + (wrap64 (Int.tdiv (Int.tmod x0_3 1000) 100)))) % 256, (wrap64 (48 + (wrap64 (Int.tdiv (Int.tmod x0_3 100) 10)))) % 256, (wrap64 (48 + (Int.tmod x0_3 10))) % 256] : List Int)) := ⟨_, rfl⟩
      replace H : (spec_MilliText.l0 kj3 (x3_3 ++ t266) y267 3) = some r := by first | (rw [hy267]; with_reducible exact H) | (have H2_ := (Option.bind_some _ _).symm.trans H; rw [hy267]; with_reducible exact H2_) | (have H2_ := (Option.bind_some _ _).symm.trans H; with_reducible exact H2_) | with_reducible exact H | (rw [hy267]; exact H) | exact H
      have Ny267 := Aside0.mk hy267
      clear hy267
      have H' := Aside0.mk H
      clear H
      go_wp2_with (first | ((with_reducible refine gate_callee (f := 24) rfl ?_); refine goesL_ (some 16) rfl rfl Tryd.func24 (by kernel_rfl) rfl #[.int .i64 (wrap64 (Int.tdiv x0_3 1000))] rfl (ma1_ rfl) ?_; (with_reducible refine (spec_l01Num.calls kj3 (wrap64 (Int.tdiv x0_3 1000)) t266 _ A6.out).mono ?_); rintro e w10 ⟨rfl, hb⟩; refine ⟨_, rfl, ?_⟩; replace HB := ak_ (below_step hb_ hb); (try clear hb); (try clear hk)) | ((with_reducible refine gate_dst (N := 36) rfl ?_); refine Kd.R_lit (Kd.int .u8) _ 5 ?hg (N := 36) ?hd (xs := ([(wrap64 (48 + (wrap64 (Int.tdiv (Int.tmod x0_3 1000) 100)))) % 256, (wrap64 (48 + (wrap64 (Int.tdiv (Int.tmod x0_3 100) 10)))) % 256, (wrap64 (48 + (Int.tmod x0_3 10))) % 256] : List Int)) (inner := [.int .u8 ((wrap64 (48 + (wrap64 (Int.tdiv (Int.tmod x0_3 1000) 100)))) % 256), .int .u8 ((wrap64 (48 + (wrap64 (Int.tdiv (Int.tmod x0_3 100) 10)))) % 256), .int .u8 ((wrap64 (48 + (Int.tmod x0_3 10))) % 256)]) (ok := fun _ => True) (okp := fun _ => True) ?hr ?hp (fun _ hk => hk) trivial (Below.refl _ _) (Nat.le_refl _) (by simp) ?_; (case hd => rfl); (case hg => rfl); (case hr => first | (go_simp; done) | (go_simp; rfl)); (case hp => exact (Reps.one (show Kd.M (Kd.int .u8) _ _ _ ((wrap64 (48 + (wrap64 (Int.tdiv (Int.tmod x0_3 1000) 100)))) % 256) [.int .u8 ((wrap64 (48 + (wrap64 (Int.tdiv (Int.tmod x0_3 1000) 100)))) % 256)] from rfl) (Reps.one (show Kd.M (Kd.int .u8) _ _ _ ((wrap64 (48 + (wrap64 (Int.tdiv (Int.tmod x0_3 100) 10)))) % 256) [.int .u8 ((wrap64 (48 + (wrap64 (Int.tdiv (Int.tmod x0_3 100) 10)))) % 256)] from rfl) (Reps.one (show Kd.M (Kd.int .u8) _ _ _ ((wrap64 (48 + (Int.tmod x0_3 10))) % 256) [.int .u8 ((wrap64 (48 + (Int.tmod x0_3 10))) % 256)] from rfl) (Reps.none _ _))))); intro v268 w11 ho12 hb hg_ hnew_; clear hg_ hnew_; (first | rw [← Ny267.out] at ho12 | (simp only [Int.reduceToNat] at ho12; rw [← Ny267.out] at ho12)); have HO269 := ak_ (Kd.R_lower ho12 (below_size hb_)); replace HB := ak_ (below_step hb_ hb); clear hb ho12))
      go_loopg [5] kj3 (fun kq v5 w' => ∃ (x5_2 : Int), v5 = .int .i64 x5_2 ∧ Aside0 (spec_MilliText.l0 kq (x3_3 ++ t266) y267 x5_2 = some r) ∧ Aside0 (kq ≤ kj3) ∧ Aside0 (Kd.R (Kd.int .u8) 5 w' w.heap.size (fun _ => True) v268 y267) ∧ Aside0 (Below w.heap.size w w'))
      case atStart => exact ⟨(3), (by first | rfl | (simp; done) | (simp [*]; done)), H', ⟨Nat.le_refl _⟩, ⟨by (with_reducible repeat (first | apply Kd.R_alloc | apply Kd.R_drewN | apply Kd.R_drew)); exact HO269.out⟩, ⟨hb_⟩⟩
      case round =>
       clear H'
       try clear c2
       try clear p2
       try clear c3
       try clear c5
       try clear c5b0
       try clear c6
       try clear p6
       try clear c7
       try clear c7b0
       try clear c7b1
       try clear c7b2
       try clear c8
       try clear c8b0
       try clear c8b1
       try clear p2
       obtain ⟨x5_2, rfl, HA, HK2, HO_4, HB⟩ := hrel
       cases gk with
       | zero => exact absurd HA.out (by simp [spec_MilliText.l0])
       | succ k2 =>
        have H := HA.out
        clear HA
        simp only [spec_MilliText.l0] at H
        obtain ⟨ji13, hji13⟩ : ∃ j_ : Int, (wrap64 (x5_2 - 1)) = j_ := ⟨_, rfl⟩
        replace H : (if 0 ≤ (ji13) then (if (ji13) < (y267.length : Int) then (if (rd y267 (ji13)) = 48 then (spec_MilliText.l0 k2 (x3_3 ++ t266) y267 ji13) else (if (x3_3 ++ t266).size + 1 ≤ 9223372036854775807 then (if 0 ≤ x5_2 then (if x5_2 ≤ (y267.length : Int) then ((some (y267.take (x5_2 : Int).toNat : List Int)).bind fun y271 => (if ((x3_3 ++ t266) ++ (⟨#[46]⟩ : ByteArray)).size + (strOfNums y271).size ≤ 9223372036854775807 then (some (((x3_3 ++ t266) ++ (⟨#[46]⟩ : ByteArray)) ++ (strOfNums y271))) else (none))) else (none)) else (none)) else (none))) else (none)) else (none)) = some r := by first | (rw [hji13] at H; exact H) | (simp only [hji13] at H ⊢; exact H)
        have hji13w : (IntKind.i64.wrap (x5_2 - 1)) = ji13 := (i64_w _).trans hji13
        by_cases c14 : 0 ≤ (ji13)
        ·rw [if_pos c14] at H
         have c14b0 : decide (0 ≤ (ji13)) = true := decide_eq_true c14
         clear c14
         by_cases c15 : (ji13) < (y267.length : Int)
         ·rw [if_pos c15] at H
          have c15b0 : decide ((ji13) < (y267.length : Int)) = true := decide_eq_true c15
          clear c15
          by_cases c16 : (rd y267 (ji13)) = 48
          ·rw [if_pos c16] at H
           have c16b0 : ((rd y267 (ji13)) == 48) = true := beq_iff_eq.mpr c16
           have c16b1 : ((rd y267 (ji13)) != 48) = false := bne_eq_false_iff_eq.mpr c16
           clear c16
           have H' := Aside0.mk H
           clear H
           obtain ⟨Ao17, co17, eo17⟩ := Kd.R_slice HO_4.out
           subst eo17
           have p270 : 0 ≤ ((ji13) : Int) := of_decide_eq_true (by first | (with_reducible assumption) | assumption)
           have q270 : (ji13) < (y267.length : Int) := of_decide_eq_true (by first | (with_reducible assumption) | assumption)
           obtain ⟨ad270, e270, hx270_0⟩ := Kd.at_int (Kd.R_reads' HO_4.out).2.2 (ji13) p270 q270
           cases e270
           replace p270 := eq_true p270
           replace q270 := eq_true q270
           go_wp2
           go_roundg k2
           case measure => have := HJ3.out; have := HK2.out; omega
           case rel => exact ⟨(ji13), (by first | rfl | (simp; done) | (simp only [← hji13] <;> (first | rfl | simp)) | (simp [*]; done)), H', ⟨by have := HJ3.out; have := HK2.out; omega⟩, ⟨by (with_reducible repeat (first | apply Kd.R_alloc | apply Kd.R_drewN | apply Kd.R_drew)); exact HO_4.out⟩, ⟨hb_⟩⟩
          ·rw [if_neg c16] at H
           have c16b0 : ((rd y267 (ji13)) == 48) = false := beq_eq_false_iff_ne.mpr c16
           have c16b1 : ((rd y267 (ji13)) != 48) = true := bne_iff_ne.mpr c16
           by_cases c18 : (x3_3 ++ t266).size + 1 ≤ 9223372036854775807
           ·rw [if_pos c18] at H
            have c18n3 := c18
            try simp only [ByteArray.size_append] at c18n3
            try have c18n4 := eq_true c18n3
            try have c18n5 := decide_eq_true c18n3
            try have c18n6 := eq_false (Nat.not_lt.2 c18n3)
            have c18b0 := eq_true c18
            have c18b1 : decide ((x3_3 ++ t266).size + 1 ≤ 9223372036854775807) = true := decide_eq_true c18
            try have c18b2 : (9223372036854775807 < (x3_3 ++ t266).size + 1) = False := eq_false (Nat.not_lt.2 c18)
            by_cases c19 : 0 ≤ x5_2
            ·rw [if_pos c19] at H
             have c19b0 := eq_true c19
             have c19b1 : decide (0 ≤ x5_2) = true := decide_eq_true c19
             clear c19
             by_cases c20 : x5_2 ≤ (y267.length : Int)
             ·rw [if_pos c20] at H
              have c20b0 := eq_true c20
              have c20b1 : decide (x5_2 ≤ (y267.length : Int)) = true := decide_eq_true c20
              clear c20
              obtain ⟨y271, hy271⟩ : ∃ y_ : List Int, y_ = (y267.take (x5_2 : Int).toNat) := ⟨_, rfl⟩
              replace H : (if ((x3_3 ++ t266) ++ (⟨#[46]⟩ : ByteArray)).size + (strOfNums y271).size ≤ 9223372036854775807 then (some (((x3_3 ++ t266) ++ (⟨#[46]⟩ : ByteArray)) ++ (strOfNums y271))) else (none)) = some r := by first | (rw [hy271]; with_reducible exact H) | (have H2_ := (Option.bind_some _ _).symm.trans H; rw [hy271]; with_reducible exact H2_) | (have H2_ := (Option.bind_some _ _).symm.trans H; with_reducible exact H2_) | with_reducible exact H | (rw [hy271]; exact H) | exact H
              have Ny271 := Aside0.mk hy271
              clear hy271
              by_cases c21 : ((x3_3 ++ t266) ++ (⟨#[46]⟩ : ByteArray)).size + (strOfNums y271).size ≤ 9223372036854775807
              ·rw [if_pos c21] at H
               have c21n3 := c21
               try simp only [ByteArray.size_append, show (⟨#[46]⟩ : ByteArray).size = 1 from rfl] at c21n3
               try have c21n4 := eq_true c21n3
               try have c21n5 := decide_eq_true c21n3
               try have c21n6 := eq_false (Nat.not_lt.2 c21n3)
               have c21b0 := eq_true c21
               have c21b1 : decide (((x3_3 ++ t266) ++ (⟨#[46]⟩ : ByteArray)).size + (strOfNums y271).size ≤ 9223372036854775807) = true := decide_eq_true c21
               try have c21b2 : (9223372036854775807 < ((x3_3 ++ t266) ++ (⟨#[46]⟩ : ByteArray)).size + (strOfNums y271).size) = False := eq_false (Nat.not_lt.2 c21)
               obtain rfl := Option.some.inj H
               obtain ⟨Ao22, co22, eo22⟩ := Kd.R_slice HO_4.out
               subst eo22
               have p270 : 0 ≤ ((ji13) : Int) := of_decide_eq_true (by first | (with_reducible assumption) | assumption)
               have q270 : (ji13) < (y267.length : Int) := of_decide_eq_true (by first | (with_reducible assumption) | assumption)
               obtain ⟨ad270, e270, hx270_0⟩ := Kd.at_int (Kd.R_reads' HO_4.out).2.2 (ji13) p270 q270
               cases e270
               replace p270 := eq_true p270
               replace q270 := eq_true q270
               have q23 : (x5_2 : Int) ≤ ((y267.length : Int) : Int) := of_decide_eq_true (by first | (with_reducible assumption) | assumption)
               obtain ⟨i023, hi023, _, hsz23, _⟩ := info_parts info5
               have hroom23 : y267.length ≤ co22 := (Kd.R_reads' HO_4.out).2.1
               have hC23 : Kd.C (Kd.int .u8) _ (some ad270) y267.length y267 := (Kd.R_reads' HO_4.out).2.2
               have hcut23 := cut_to (P := Tryd.prog) 91 5 .i64 Tryd.underlying91 hi023 (some ad270) y267.length co22 x5_2 (of_decide_eq_true (by first | (with_reducible assumption) | assumption)) q23 hroom23
               have hr23 := Kd.C_take (m := (x5_2 : Int).toNat) hC23 (by omega)
               have hy23 : y271.length = (x5_2 : Int).toNat := (by rw [Ny271.out, List.length_take]; omega)
               rw [← Ny271.out] at hr23
               rw [← hy23] at hcut23
               have HR274 := Aside0.mk hr23
               have HC274 := Aside0.mk (show y271.length ≤ co22 from by omega)
               clear hr23 hC23 hroom23 hi023 hsz23
               have KY23 := Aside0.mk hy23
               clear hy23
               have KL23 := Aside0.mk (show (x5_2 : Int).toNat ≤ y267.length from by omega)
               replace q23 := eq_true q23
               have hcv24 := Kd.C_string (P := Tryd.prog) (A := (some ad270)) (c := co22) Tryd.underlying91 Tryd.underlying5 Tryd.underlying9 (by repeat (first | (with_reducible exact HR274.out) | (with_reducible refine Kd.C_alloc ?_ _) | (with_reducible refine Kd.C_drewN ?_ _) | (with_reducible refine Kd.C_drew ?_) | exact HR274.out))
               go_wp2
               go_ret
               exact ⟨by first | rfl | (simp [errW_none, errW_some] <;> rfl) | (simp only [← hji13]; first | rfl | (simp [errW_none, errW_some] <;> rfl)) | (simp [*, errW_none, errW_some] <;> rfl), hb_⟩
              ·rw [if_neg c21] at H
               exact absurd H (by simp)
             ·rw [if_neg c20] at H
              exact absurd H (by simp)
            ·rw [if_neg c19] at H
             exact absurd H (by simp)
           ·rw [if_neg c18] at H
            exact absurd H (by simp)
         ·rw [if_neg c15] at H
          exact absurd H (by simp)
        ·rw [if_neg c14] at H
         exact absurd H (by simp)
    ·rw [if_neg c7] at H
     exact absurd H (by simp)
 ·replace c3 := Bool.eq_false_iff.mpr c3
  subst c3
  rw [if_neg (show ¬ (false = true) by decide)] at H
  obtain rfl := Option.some.inj H
  go_enter Tryd.func60, Tryd.ntmps60
  go_wp2_with (first | ((with_reducible refine gate_callee (f := 76) rfl ?_); refine goesL_ (some 7) rfl rfl Tryd.func76 (by kernel_rfl) rfl #[.int .i64 a0] rfl (ma1_ rfl) ?_; (with_reducible refine (spec_l01Value.calls a0 false _ A2.out).mono ?_); rintro e w' ⟨rfl, ⟨nd, rfl⟩⟩; refine ⟨_, rfl, ?_⟩))
  go_ret
  exact ⟨ew_, hb_⟩

end Go.Proofs.YtblfoelddakelaaDoor.U
