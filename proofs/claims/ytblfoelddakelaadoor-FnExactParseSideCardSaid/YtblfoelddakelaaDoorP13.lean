-- PRINTED by print.py (a twelfth state) out of the translation. Not trusted: Lean checks it.
import Derived.Test.YtblfoelddakelaaDoorP0
import Derived.Test.YtblfoelddakelaaDoorP9
import Derived.Test.YtblfoelddakelaaDoorP10
import Derived.Test.YtblfoelddakelaaDoorP11
import Derived.Test.YtblfoelddakelaaDoorP12
namespace Go.Proofs.YtblfoelddakelaaDoor.P
open Go.RowKit Go.Proofs.YtblfoelddakelaaDoorW.PrintWords Go.Proofs.YtblfoelddakelaaDoorW.PrintLast Go.Proofs.YtblfoelddakelaaDoorW.PrintMore
attribute [local go_sem] max2_int min2_int max_two min_two max_three min_three max_four min_four   -- for this text's walks alone
set_option linter.unusedVariables false
set_option linter.unusedSimpArgs false

/-! ### impl_ParseSide: function 21 -/
def impl_ParseSide.l0 : Nat → ByteArray → List ByteArray → Int → Int → List (S67) → Int → Int → Option ((List (S67)) × Int × Int × Bool)
  | 0, _, _, _, _, _, _, _ => none
  | k + 1, x0, x26, x27, x28, x207000, x207001, x207002 => if x28 < x27 then (if 0 ≤ x28 then (if x28 < (x26.length : Int) then ((strings_Split.f (rdOf ByteArray.empty x26 x28) (⟨#[58]⟩ : ByteArray)).bind fun t212 => (if (t212.length : Int) = 3 then (if 0 < (t212.length : Int) then ((impl_atoi.f (rdOf ByteArray.empty t212 0)).bind fun t216 => (if 1 < (t212.length : Int) then ((impl_atoi.f (rdOf ByteArray.empty t212 1)).bind fun t218 => (if 2 < (t212.length : Int) then ((impl_atoi.f (rdOf ByteArray.empty t212 2)).bind fun t220 => (if x207000.length < 5864062014805 then (impl_ParseSide.l0 k x0 x26 x27 (wrap64 (x28 + 1)) (x207000 ++ [(⟨t216, t218, t220⟩ : S67)]) x207001 x207002) else (none))) else (none))) else (none))) else (none)) else (some (([] : List (S67)), 0, 0, false)))) else (none)) else (none)) else ((impl_SideOk.f k x207000 x207001 x207002).bind fun t224 => (if t224 = true then ((impl_SideText.f k x207000 x207001 x207002).bind fun t225 => (if t225.toList = x0.toList then (some (x207000, x207001, x207002, true)) else (some (([] : List (S67)), 0, 0, false)))) else (some (([] : List (S67)), 0, 0, false))))
def impl_ParseSide.f (k : Nat) (a0 : ByteArray) : Option ((List (S67)) × Int × Int × Bool) := (strings_Split.f a0 (⟨#[32]⟩ : ByteArray)).bind fun t198 => ((impl_in.f (t198.length : Int) 2 5).bind fun t201 => (if t201 = true then (if 0 < (t198.length : Int) then ((impl_atoi.f (rdOf ByteArray.empty t198 0)).bind fun t203 => (if 1 < (t198.length : Int) then ((impl_atoi.f (rdOf ByteArray.empty t198 1)).bind fun t205 => (if 2 ≤ (t198.length : Int) then ((some (t198.drop 2 : List ByteArray)).bind fun y207 => (impl_ParseSide.l0 k a0 y207 (y207.length : Int) 0 ([] : List (S67)) t203 t205)) else (none))) else (none))) else (none)) else (some (([] : List (S67)), 0, 0, false))))
theorem impl_ParseSide.mono_l : ∀ k, (∀ y0 y1 y2 y3 y4 y5 y6, LeO (impl_ParseSide.l0 k y0 y1 y2 y3 y4 y5 y6) (impl_ParseSide.l0 (k + 1) y0 y1 y2 y3 y4 y5 y6))
  | 0 => fun _ _ _ _ _ _ _ r h => by simp [impl_ParseSide.l0] at h
  | k + 1 => by
    have ih0 := impl_ParseSide.mono_l k
    · intro y0 y1 y2 y3 y4 y5 y6
      unfold impl_ParseSide.l0
      repeat' with_reducible first | exact ih0 _ _ _ _ _ _ _ | exact impl_SideOk.mono _ _ _ _ | exact impl_SideText.mono _ _ _ _ | exact LeO.refl _ | exact LeO.none _ | refine LeO.ite ?_ ?_ | refine LeO.bind ?_ (fun _ => ?_)
theorem impl_ParseSide.mono : ∀ a0 k, LeO (impl_ParseSide.f k a0) (impl_ParseSide.f (k + 1) a0) := by
  intro a0 k
  have ih0 := impl_ParseSide.mono_l k
  unfold impl_ParseSide.f
  repeat' with_reducible first | exact ih0 _ _ _ _ _ _ _ | exact impl_SideOk.mono _ _ _ _ | exact impl_SideText.mono _ _ _ _ | exact LeO.refl _ | exact LeO.none _ | refine LeO.ite ?_ ?_ | refine LeO.bind ?_ (fun _ => ?_)
def impl_ParseSide.T4 : Bool × List (List Nat × List Nat) := (true, [([], []), ([0], [0]), ([1], [1]), ([2], [2]), ([], []), ([4], [4]), ([5], [5]), ([6, 3], [6]), ([3, 7], [3, 7]), ([], []), ([9, 8, 7, 0, 1, 2, 3, 4, 5, 6, 7, 8, 9], [8, 9])])
def impl_ParseSide.B4 : List Nat := [0, 1, 3, 7, 0, 16, 48, 127, 255, 0, 1023]
theorem impl_ParseSide.tab4 : rtab .any (opsOf Tryd.f21 4) = impl_ParseSide.T4 := by kernel_rfl
theorem impl_ParseSide.bits4 : waitsOk impl_ParseSide.T4.2 impl_ParseSide.B4 = true := by kernel_rfl
def impl_ParseSide.T11 : Bool × List (List Nat × List Nat) := (true, [([], []), ([0], [0]), ([], []), ([2], [2]), ([3], [3]), ([4], [4]), ([], []), ([6], [6]), ([7], [7]), ([8, 5], [8]), ([], []), ([10], [10]), ([11], [11]), ([12, 9], [12]), ([5, 9, 13], [5, 9, 13]), ([14], [14]), ([1, 15, 13], [1, 15]), ([0, 1, 2, 3, 4, 5, 6, 7, 8, 9, 10, 11, 12, 13, 14, 15, 16], []), ([17, 16, 16, 0, 1, 2, 3, 4, 5, 6, 7, 8, 9, 10, 11, 12, 13, 14, 15, 16], [16, 17])])
def impl_ParseSide.B11 : List Nat := [0, 1, 0, 4, 12, 28, 0, 64, 192, 508, 0, 1024, 3072, 8188, 16380, 32764, 65535, 131071, 262143]
theorem impl_ParseSide.tab11 : rtab .any (opsOf Tryd.f21 11) = impl_ParseSide.T11 := by kernel_rfl
theorem impl_ParseSide.bits11 : waitsOk impl_ParseSide.T11.2 impl_ParseSide.B11 = true := by kernel_rfl
abbrev impl_ParseSide.d0 : Array Bool := #[true, true, true, true, true, true, true, false, false, true, false]
abbrev impl_ParseSide.d1 : Array Bool := #[true, true, true, true, true, true, true, true, false, true, false]
abbrev impl_ParseSide.d2 : Array Bool := #[true, true, true, true, true, true, true, true, true, true, false]
set_option maxHeartbeats 8000000 in
set_option maxRecDepth 100000 in
theorem impl_ParseSide.calls (k : Nat) (a0 : ByteArray) (r1 : List (S67)) (r2 : Int) (r3 : Int) (r4 : Bool) (w : World) (hL : Lay w) (h : impl_ParseSide.f k a0 = some (r1, r2, r3, r4)) :
  Calls Tryd.prog 21 #[.string a0] w fun e w' => ∃ v0_ : Value, e = .returned (.tuple #[.agg #[v0_, .int .i64 r2, .int .i64 r3], .bool r4]) ∧ Kd.R k67 67 w' w.heap.size (fun _ => True) v0_ r1 ∧ Below w.heap.size w w' := by
 have HLAY := Aside0.mk hL
 clear hL
 have hu35 := Tryd.underlying35
 have hu67 := Tryd.underlying67
 have HB := Aside0.mk (Below.refl w.heap.size w)
 have H : ((strings_Split.f a0 (⟨#[32]⟩ : ByteArray)).bind fun t198 => ((impl_in.f (t198.length : Int) 2 5).bind fun t201 => (if t201 = true then (if 0 < (t198.length : Int) then ((impl_atoi.f (rdOf ByteArray.empty t198 0)).bind fun t203 => (if 1 < (t198.length : Int) then ((impl_atoi.f (rdOf ByteArray.empty t198 1)).bind fun t205 => (if 2 ≤ (t198.length : Int) then ((some (t198.drop 2 : List ByteArray)).bind fun y207 => (impl_ParseSide.l0 k a0 y207 (y207.length : Int) 0 ([] : List (S67)) t203 t205)) else (none))) else (none))) else (none)) else (some (([] : List (S67)), 0, 0, false))))) = some (r1, r2, r3, r4) := h
 clear h
 replace H := Option.bind_eq_some_iff.mp H
 obtain ⟨t198, A20, H⟩ := H
 replace H : ((impl_in.f (t198.length : Int) 2 5).bind fun t201 => (if t201 = true then (if 0 < (t198.length : Int) then ((impl_atoi.f (rdOf ByteArray.empty t198 0)).bind fun t203 => (if 1 < (t198.length : Int) then ((impl_atoi.f (rdOf ByteArray.empty t198 1)).bind fun t205 => (if 2 ≤ (t198.length : Int) then ((some (t198.drop 2 : List ByteArray)).bind fun y207 => (impl_ParseSide.l0 k a0 y207 (y207.length : Int) 0 ([] : List (S67)) t203 t205)) else (none))) else (none))) else (none)) else (some (([] : List (S67)), 0, 0, false)))) = some (r1, r2, r3, r4) := H
 have A2 := Aside0.mk A20
 clear A20
 replace H := Option.bind_eq_some_iff.mp H
 obtain ⟨t201, A30, H⟩ := H
 replace H : (if t201 = true then (if 0 < (t198.length : Int) then ((impl_atoi.f (rdOf ByteArray.empty t198 0)).bind fun t203 => (if 1 < (t198.length : Int) then ((impl_atoi.f (rdOf ByteArray.empty t198 1)).bind fun t205 => (if 2 ≤ (t198.length : Int) then ((some (t198.drop 2 : List ByteArray)).bind fun y207 => (impl_ParseSide.l0 k a0 y207 (y207.length : Int) 0 ([] : List (S67)) t203 t205)) else (none))) else (none))) else (none)) else (some (([] : List (S67)), 0, 0, false))) = some (r1, r2, r3, r4) := H
 have A3 := Aside0.mk A30
 clear A30
 by_cases c4 : t201 = true
 ·subst c4
  rw [if_pos rfl] at H
  by_cases c5 : 0 < (t198.length : Int)
  ·rw [if_pos c5] at H
   have c5b0 : decide (0 < (t198.length : Int)) = true := decide_eq_true c5
   have c5b1 : decide (0 < t198.length) = true := decide_eq_true (by omega)
   clear c5
   replace H := Option.bind_eq_some_iff.mp H
   obtain ⟨t203, A60, H⟩ := H
   replace H : (if 1 < (t198.length : Int) then ((impl_atoi.f (rdOf ByteArray.empty t198 1)).bind fun t205 => (if 2 ≤ (t198.length : Int) then ((some (t198.drop 2 : List ByteArray)).bind fun y207 => (impl_ParseSide.l0 k a0 y207 (y207.length : Int) 0 ([] : List (S67)) t203 t205)) else (none))) else (none)) = some (r1, r2, r3, r4) := H
   have A6 := Aside0.mk A60
   clear A60
   by_cases c7 : 1 < (t198.length : Int)
   ·rw [if_pos c7] at H
    have c7b0 : decide (1 < (t198.length : Int)) = true := decide_eq_true c7
    have c7b1 : decide (1 < t198.length) = true := decide_eq_true (by omega)
    clear c7
    replace H := Option.bind_eq_some_iff.mp H
    obtain ⟨t205, A80, H⟩ := H
    replace H : (if 2 ≤ (t198.length : Int) then ((some (t198.drop 2 : List ByteArray)).bind fun y207 => (impl_ParseSide.l0 k a0 y207 (y207.length : Int) 0 ([] : List (S67)) t203 t205)) else (none)) = some (r1, r2, r3, r4) := H
    have A8 := Aside0.mk A80
    clear A80
    by_cases c9 : 2 ≤ (t198.length : Int)
    ·rw [if_pos c9] at H
     have c9b0 := eq_true c9
     have c9b1 : decide (2 ≤ (t198.length : Int)) = true := decide_eq_true c9
     clear c9
     obtain ⟨y207, hy207⟩ : ∃ y_ : List ByteArray, y_ = (t198.drop 2) := ⟨_, rfl⟩
     replace H : (impl_ParseSide.l0 k a0 y207 (y207.length : Int) 0 ([] : List (S67)) t203 t205) = some (r1, r2, r3, r4) := by first | (rw [hy207]; with_reducible exact H) | (have H2_ := (Option.bind_some _ _).symm.trans H; rw [hy207]; with_reducible exact H2_) | (have H2_ := (Option.bind_some _ _).symm.trans H; with_reducible exact H2_) | with_reducible exact H | (rw [hy207]; exact H) | exact H
     have Ny207 := Aside0.mk hy207
     clear hy207
     have H' := Aside0.mk H
     clear H
     go_enter Tryd.func21, Tryd.ntmps21
     try go_wp2_with (first | ((with_reducible refine gate_dst (N := 2) rfl ?_); refine be_ (N := 2) (cs := #[.slice none 0 0, .int .i64 0, .int .i64 0]) (t := 35) ?_; intro gb197 hg w10 hbox hb; have BK197 := ak_ hbox; have GW197 := ak_ ((gs_ hg : w.heap.size ≤ gb197)); have GE197 := ak_ ((gs_ hg : w.heap.size ≤ gb197)); replace HB := ak_ (below_step hb_ hb); clear hb hbox hg) | ((with_reducible refine gate_callee (f := 46) rfl ?_); refine goesL_ (some 10) rfl rfl Tryd.func46 (by kernel_rfl) rfl #[.string a0, .string (⟨#[32]⟩ : ByteArray)] rfl (ma2_ rfl rfl) ?_; (with_reducible refine (strings_Split.calls a0 (⟨#[32]⟩ : ByteArray) t198 _ ?sideL A2.out).mono ?_); (case sideL => refine lay_at HLAY.out ?_; repeat (first | (with_reducible first | exact HB.out | apply below_alloc | apply pw_below_drewN | apply below_drew1 | refine below_set ?_ GE197.out) | exact HB.out)); rintro e w11 ⟨v199, rfl, ho0, hb⟩; refine ⟨_, rfl, ?_⟩; have HO200 := ak_ (Kd.R_lower ho0 (below_size hb_)); replace BK197 := ak_ (blk_below (bk_ BK197) hb); replace HB := ak_ (below_step hb_ hb); (try clear hb); (try clear ho0); obtain ⟨Ao12, co12, eo12⟩ := Kd.R_slice HO200.out; subst eo12) | ((with_reducible refine gate_callee (f := 47) rfl ?_); refine goesL_ (some 13) rfl rfl Tryd.func47 (by kernel_rfl) rfl #[.int .i64 (t198.length : Int), .int .i64 2, .int .i64 5] rfl (ma3_ rfl rfl rfl) ?_; (with_reducible refine (impl_in.calls (t198.length : Int) 2 5 true _ A3.out).mono ?_); rintro e w' ⟨rfl, ⟨nd, rfl⟩⟩; refine ⟨_, rfl, ?_⟩; (try (rw [drewN_self w11]; generalize hq_ : World.drewN w11 _ = w11; have n0_ : Aside0 (Kd.R Kd.string 9 w11 w.heap.size (fun _ => True) (.slice Ao12 t198.length co12) t198) := ⟨by rw [← hq_]; exact (by (with_reducible repeat (first | apply Kd.R_alloc | apply Kd.R_drewN | apply Kd.R_drew)); exact HO200.out)⟩; have n1_ : Aside0 (w11.heap[gb197]? = some (.cells #[.slice none 0 0, .int .i64 0, .int .i64 0] 35 (0, 0))) := ⟨by rw [← hq_]; exact (by (with_reducible repeat (first | refine blk_drewN ?_ _ | refine blk_drew ?_ | refine blk_alloc ?_ _)); exact BK197.out)⟩; have n2_ : Aside0 (Below w.heap.size w w11) := ⟨by rw [← hq_]; exact hb_⟩; clear HO200 BK197 HB hq_; have HO200 := n0_; have BK197 := n1_; have HB := n2_; clear n0_ n1_ n2_))))
     replace HO200 := ak_ (Kd.R_drew HO200.out)
     replace BK197 := ak_ (blk_drew BK197.out)
     replace HB := ak_ (below_drew1 HB.out)
     have p202 : 0 ≤ (0 : Int) := (by omega)
     have q202 : 0 < (t198.length : Int) := of_decide_eq_true (by first | (with_reducible assumption) | assumption)
     obtain ⟨ad202, e202, hx202_0⟩ := Kd.at_string (Kd.R_reads' HO200.out).2.2 0 p202 q202
     cases e202
     have qi202 : (0 < t198.length) = True := eq_true (by omega)
     (try rw [show ((0 : Int)).toNat = 0 from rfl] at hx202_0)
     (try rw [Addr.add_zero'] at hx202_0)
     replace p202 := eq_true p202
     replace q202 := eq_true q202
     have p204 : 0 ≤ (1 : Int) := (by omega)
     have q204 : 1 < (t198.length : Int) := of_decide_eq_true (by first | (with_reducible assumption) | assumption)
     obtain ⟨ad204, e204, hx204_0⟩ := Kd.at_string (Kd.R_reads' HO200.out).2.2 1 p204 q204
     obtain rfl : ad202 = ad204 := (by injection e204)
     (try simp only [show (1 : Int).toNat = 1 from rfl, Nat.reduceMul, Nat.reduceEqDiff, Go.Addr.add, ↓reduceIte] at hx204_0)
     have qi204 : (1 < t198.length) = True := eq_true (by omega)
     (try rw [show ((1 : Int)).toNat = 1 from rfl] at hx204_0)
     replace p204 := eq_true p204
     replace q204 := eq_true q204
     refine start_ (n := 11) (S := fun w' => w'.cell? ad202 = some (.string (rdOf ByteArray.empty t198 0)) ∧ w'.cell? ⟨ad202.block, ad202.off + 1, none⟩ = some (.string (rdOf ByteArray.empty t198 1))) (ds := []) #[false, false, false, false, false, false, false, false, false, false, false] (by kernel_rfl) rfl rfl ⟨hx202_0, hx204_0⟩ (fun hHeld => ?_); refine with_tabW impl_ParseSide.tab4 impl_ParseSide.bits4 (fun HT_ HW_ => ?_)
     generalize w11.drew = w13 at HO200 BK197 HB hx202_0 hx204_0 hHeld ⊢
     refine pure_ (i := 0) (N := some 16) (v := ?_) (a' := ?_) #[true, false, false, false, false, false, false, false, false, false, false] rfl rfl (any_of HT_.out (by kernel_rfl)) (fun _ _ _ h => h) (Or.inl ⟨by rfl, ?_⟩) ?_ ?_; rotate_left; (intro w'; go_simp; with_reducible rfl); rotate_left; (simp only [Act.put, List.setIfInBounds_toArray, List.set_cons_zero, List.set_cons_succ, i64_w, i32_w]; rfl)
     refine pure_ (i := 1) (N := some 17) (v := ?_) (a' := ?_) #[true, true, false, false, false, false, false, false, false, false, false] rfl rfl (any_of HT_.out (by kernel_rfl)) (fun _ _ _ h => h) (Or.inl ⟨by rfl, ?_⟩) ?_ ?_; rotate_left; (intro w'; go_simp; with_reducible rfl); rotate_left; (simp only [Act.put, List.setIfInBounds_toArray, List.set_cons_zero, List.set_cons_succ, i64_w, i32_w]; rfl)
     refine pure_ (i := 4) (N := some 20) (v := ?_) (a' := ?_) #[true, true, false, false, true, false, false, false, false, false, false] rfl rfl (any_of HT_.out (by kernel_rfl)) (fun _ _ _ h => h) (Or.inl ⟨by rfl, ?_⟩) ?_ ?_; rotate_left; (intro w'; go_simp; with_reducible rfl); rotate_left; (simp only [Act.put, List.setIfInBounds_toArray, List.set_cons_zero, List.set_cons_succ, i64_w, i32_w]; rfl)
     refine pure_ (i := 5) (N := some 21) (v := ?_) (a' := ?_) #[true, true, false, false, true, true, false, false, false, false, false] rfl rfl (any_of HT_.out (by kernel_rfl)) (fun _ _ _ h => h) (Or.inl ⟨by rfl, ?_⟩) ?_ ?_; rotate_left; (intro w'; go_simp; with_reducible rfl); rotate_left; (simp only [Act.put, List.setIfInBounds_toArray, List.set_cons_zero, List.set_cons_succ, i64_w, i32_w]; rfl)
     refine take_ (i := 2) (N := some 18) (v := ?_) (a' := ?_) #[true, true, true, false, true, true, false, false, false, false, false] rfl rfl (take_ofW HT_.out HW_.out (by kernel_rfl)) (fun _ _ _ h => h) (Or.inl ⟨by rfl, ?_⟩) hHeld ?_ ?_; rotate_left; (rintro w' ⟨s0, s1⟩; go_simp; with_reducible rfl); rotate_left; (simp only [Act.put, List.setIfInBounds_toArray, List.set_cons_zero, List.set_cons_succ, i64_w, i32_w]; rfl)
     refine take_ (i := 6) (N := some 22) (v := ?_) (a' := ?_) #[true, true, true, false, true, true, true, false, false, false, false] rfl rfl (take_ofW HT_.out HW_.out (by kernel_rfl)) (fun _ _ _ h => h) (Or.inl ⟨by rfl, ?_⟩) hHeld ?_ ?_; rotate_left; (rintro w' ⟨s0, s1⟩; go_simp; with_reducible rfl); rotate_left; (simp only [Act.put, List.setIfInBounds_toArray, List.set_cons_zero, List.set_cons_succ, i64_w, i32_w]; rfl)
     refine join_ (σ := Nat) 1 impl_ParseSide.d2 (fun s_ => [(19, .int .i64 t203), (23, .int .i64 t205), (5, .pointer (some ⟨s_, 0, none⟩)), (24, .agg #[.slice none 0 0, .int .i64 t203, .int .i64 t205])]) (fun s_ w' => (w'.cell? ad202 = some (.string (rdOf ByteArray.empty t198 0)) ∧ w'.cell? ⟨ad202.block, ad202.off + 1, none⟩ = some (.string (rdOf ByteArray.empty t198 1))) ∧ (Kd.R Kd.string 9 w' w.heap.size (fun _ => True) (.slice (some ad202) t198.length co12) t198) ∧ (w'.heap[gb197]? = some (.cells #[.slice none 0 0, .int .i64 0, .int .i64 0] 35 (0, 0))) ∧ (w'.heap[s_]? = some (.cells #[.slice none 0 0, .int .i64 0, .int .i64 0] 35 (0, 0))) ∧ (w.heap.size ≤ s_) ∧ (w.heap.size ≤ s_) ∧ (gb197 ≠ s_) ∧ (s_ ≠ gb197) ∧ (Below w.heap.size w w')) ?_ ?_
     rotate_left
     ·intro hCont
      refine two_ (i := 3) (j := 9) (Ni := some 19) (Nj := some 5) #[true, true, true, true, true, true, true, false, false, false, false] #[true, true, true, false, true, true, true, false, false, true, false] rfl rfl rfl rfl (two_of HT_.out (by kernel_rfl)) (by decide) (by decide) (fun K hK => ?_) (fun K hK => ?_)
      ·skip
       refine goes_ Tryd.func48 (by kernel_rfl) rfl #[.string (rdOf ByteArray.empty t198 0)] (by rfl) rfl rfl (ma1_ rfl) ?_
       with_reducible refine (impl_atoi.calls (rdOf ByteArray.empty t198 0) t203 _ ?sideL A6.out).mono ?_
       (case sideL => refine lay_at HLAY.out ?_; repeat (first | (with_reducible first | exact HB.out | apply below_alloc | apply pw_below_drewN | apply below_drew1 | refine below_set ?_ GE197.out) | exact HB.out))
       rintro e w14 ⟨rfl, hb⟩
       have HS0_ := (hb.cell (World.block_lt_of_cell? _ _ (hHeld.1))).trans (hHeld.1)
       have HS1_ := (hb.cell (World.block_lt_of_cell? _ _ (hHeld.2))).trans (hHeld.2)
       refine ⟨_, rfl, ?_⟩
       replace HO200 := ak_ (Kd.R_below (by (with_reducible repeat (first | apply Kd.R_alloc | apply Kd.R_drewN | apply Kd.R_drew)); exact HO200.out) hb)
       replace BK197 := ak_ (blk_below (bk_ BK197) hb)
       replace HB := ak_ (below_step hb_ hb)
       (try clear hb)
       (try clear hb2)
       (try clear hk)
       (try clear hi)
       refine hK.out _ _ ⟨HS0_, HS1_⟩ (fun hHeld => ?_)
       clear hK K
       refine norm_ (a' := ?_) ?_ ?_
       rotate_left
       ·show Act.put _ (some 19) _ = _
        simp only [Act.put, List.setIfInBounds_toArray, List.set_cons_zero, List.set_cons_succ, i64_w, i32_w]
        rfl
       refine two_ (i := 7) (j := 9) (Ni := some 23) (Nj := some 5) #[true, true, true, true, true, true, true, true, false, false, false] impl_ParseSide.d0 rfl rfl rfl rfl (two_of HT_.out (by kernel_rfl)) (by decide) (by decide) (fun K hK => ?_) (fun K hK => ?_)
       ·skip
        refine goes_ Tryd.func48 (by kernel_rfl) rfl #[.string (rdOf ByteArray.empty t198 1)] (by rfl) rfl rfl (ma1_ rfl) ?_
        with_reducible refine (impl_atoi.calls (rdOf ByteArray.empty t198 1) t205 _ ?sideL A8.out).mono ?_
        (case sideL => refine lay_at HLAY.out ?_; repeat (first | (with_reducible first | exact HB.out | apply below_alloc | apply pw_below_drewN | apply below_drew1 | refine below_set ?_ GE197.out) | exact HB.out))
        rintro e w15 ⟨rfl, hb⟩
        have HS0_ := (hb.cell (World.block_lt_of_cell? _ _ (hHeld.1))).trans (hHeld.1)
        have HS1_ := (hb.cell (World.block_lt_of_cell? _ _ (hHeld.2))).trans (hHeld.2)
        refine ⟨_, rfl, ?_⟩
        replace HO200 := ak_ (Kd.R_below (by (with_reducible repeat (first | apply Kd.R_alloc | apply Kd.R_drewN | apply Kd.R_drew)); exact HO200.out) hb)
        replace BK197 := ak_ (blk_below (bk_ BK197) hb)
        replace HB := ak_ (below_step hb_ hb)
        (try clear hb)
        (try clear hb2)
        (try clear hk)
        (try clear hi)
        refine hK.out _ _ ⟨HS0_, HS1_⟩ (fun hHeld => ?_)
        clear hK K
        refine norm_ (a' := ?_) ?_ ?_
        rotate_left
        ·show Act.put _ (some 23) _ = _
         simp only [Act.put, List.setIfInBounds_toArray, List.set_cons_zero, List.set_cons_succ, i64_w, i32_w]
         rfl
        refine pure_ (i := 8) (N := some 24) (v := ?_) (a' := ?_) #[true, true, true, true, true, true, true, true, true, false, false] rfl rfl (any_of HT_.out (by kernel_rfl)) (fun _ _ _ h => h) (Or.inl ⟨by rfl, ?_⟩) ?_ ?_; rotate_left; (intro w'; go_simp; with_reducible rfl); rotate_left; (simp only [Act.put, List.setIfInBounds_toArray, List.set_cons_zero, List.set_cons_succ, i64_w, i32_w]; rfl)
        refine one_ (i := 9) (N := some 5) impl_ParseSide.d2 rfl rfl (one_of HT_.out (by kernel_rfl)) (by decide) (fun K hK => ?_)
        refine box_step ?hg (N := 5) ?hd (cs := #[.slice none 0 0, .int .i64 0, .int .i64 0]) (t := 35) ?hr ?_; (case hd => rfl); (case hg => rfl); (case hr => first | (go_simp; done) | (go_simp; rfl))
        intro gb206 hg w16 hbox hb
        have HS0_ := (hb.cell (World.block_lt_of_cell? _ _ (hHeld.1))).trans (hHeld.1)
        have HS1_ := (hb.cell (World.block_lt_of_cell? _ _ (hHeld.2))).trans (hHeld.2)
        replace HO200 := ak_ (Kd.R_below (by (with_reducible repeat (first | apply Kd.R_alloc | apply Kd.R_drewN | apply Kd.R_drew)); exact HO200.out) hb)
        have BK206 := ak_ hbox
        have GW206 := ak_ ((gs_ hg : w.heap.size ≤ gb206))
        have GE206 := ak_ ((gs_ hg : w.heap.size ≤ gb206))
        replace HB := ak_ (below_step hb_ hb)
        have NB197_206 := ak_ (nl_ hg (bk_ BK197))
        have NB206_197 := ak_ (ng_ hg (bk_ BK197))
        replace BK197 := ak_ (blk_below (bk_ BK197) hb)
        clear hb hbox hg
        refine hK.out _ _ ⟨HS0_, HS1_⟩ (fun hHeld => ?_)
        clear hK K
        refine norm_ (a' := ?_) ?_ ?_
        rotate_left
        ·show Act.put _ (some 5) _ = _
         simp only [Act.put, List.setIfInBounds_toArray, List.set_cons_zero, List.set_cons_succ, i64_w, i32_w]
         rfl
        exact norm_ (by simp only [putAll, Act.put, List.setIfInBounds_toArray, List.set_cons_zero, List.set_cons_succ]) (hCont (gb206) _ ⟨hHeld, (by (with_reducible repeat (first | apply Kd.R_alloc | apply Kd.R_drewN | apply Kd.R_drew)); exact HO200.out), (by (with_reducible repeat (first | refine blk_drewN ?_ _ | refine blk_drew ?_ | refine blk_alloc ?_ _)); exact BK197.out), (by (with_reducible repeat (first | refine blk_drewN ?_ _ | refine blk_drew ?_ | refine blk_alloc ?_ _)); exact BK206.out), GW206.out, GE206.out, NB197_206.out, NB206_197.out, hb_⟩)
       ·skip
        refine box_step ?hg (N := 5) ?hd (cs := #[.slice none 0 0, .int .i64 0, .int .i64 0]) (t := 35) ?hr ?_; (case hd => rfl); (case hg => rfl); (case hr => first | (go_simp; done) | (go_simp; rfl))
        intro gb206 hg w15 hbox hb
        have HS0_ := (hb.cell (World.block_lt_of_cell? _ _ (hHeld.1))).trans (hHeld.1)
        have HS1_ := (hb.cell (World.block_lt_of_cell? _ _ (hHeld.2))).trans (hHeld.2)
        replace HO200 := ak_ (Kd.R_below (by (with_reducible repeat (first | apply Kd.R_alloc | apply Kd.R_drewN | apply Kd.R_drew)); exact HO200.out) hb)
        have BK206 := ak_ hbox
        have GW206 := ak_ ((gs_ hg : w.heap.size ≤ gb206))
        have GE206 := ak_ ((gs_ hg : w.heap.size ≤ gb206))
        replace HB := ak_ (below_step hb_ hb)
        have NB197_206 := ak_ (nl_ hg (bk_ BK197))
        have NB206_197 := ak_ (ng_ hg (bk_ BK197))
        replace BK197 := ak_ (blk_below (bk_ BK197) hb)
        clear hb hbox hg
        refine hK.out _ _ ⟨HS0_, HS1_⟩ (fun hHeld => ?_)
        clear hK K
        refine norm_ (a' := ?_) ?_ ?_
        rotate_left
        ·show Act.put _ (some 5) _ = _
         simp only [Act.put, List.setIfInBounds_toArray, List.set_cons_zero, List.set_cons_succ, i64_w, i32_w]
         rfl
        refine one_ (i := 7) (N := some 23) impl_ParseSide.d1 rfl rfl (one_of HT_.out (by kernel_rfl)) (by decide) (fun K hK => ?_)
        refine goes_ Tryd.func48 (by kernel_rfl) rfl #[.string (rdOf ByteArray.empty t198 1)] (by rfl) rfl rfl (ma1_ rfl) ?_
        with_reducible refine (impl_atoi.calls (rdOf ByteArray.empty t198 1) t205 _ ?sideL A8.out).mono ?_
        (case sideL => refine lay_at HLAY.out ?_; repeat (first | (with_reducible first | exact HB.out | apply below_alloc | apply pw_below_drewN | apply below_drew1 | refine below_set ?_ GE197.out | refine below_set ?_ GE206.out) | exact HB.out))
        rintro e w16 ⟨rfl, hb⟩
        have HS0_ := (hb.cell (World.block_lt_of_cell? _ _ (hHeld.1))).trans (hHeld.1)
        have HS1_ := (hb.cell (World.block_lt_of_cell? _ _ (hHeld.2))).trans (hHeld.2)
        refine ⟨_, rfl, ?_⟩
        replace HO200 := ak_ (Kd.R_below (by (with_reducible repeat (first | apply Kd.R_alloc | apply Kd.R_drewN | apply Kd.R_drew)); exact HO200.out) hb)
        replace BK197 := ak_ (blk_below (bk_ BK197) hb)
        replace BK206 := ak_ (blk_below (bk_ BK206) hb)
        replace HB := ak_ (below_step hb_ hb)
        (try clear hb)
        (try clear hb2)
        (try clear hk)
        (try clear hi)
        refine hK.out _ _ ⟨HS0_, HS1_⟩ (fun hHeld => ?_)
        clear hK K
        refine norm_ (a' := ?_) ?_ ?_
        rotate_left
        ·show Act.put _ (some 23) _ = _
         simp only [Act.put, List.setIfInBounds_toArray, List.set_cons_zero, List.set_cons_succ, i64_w, i32_w]
         rfl
        refine pure_ (i := 8) (N := some 24) (v := ?_) (a' := ?_) impl_ParseSide.d2 rfl rfl (any_of HT_.out (by kernel_rfl)) (fun _ _ _ h => h) (Or.inl ⟨by rfl, ?_⟩) ?_ ?_; rotate_left; (intro w'; go_simp; with_reducible rfl); rotate_left; (simp only [Act.put, List.setIfInBounds_toArray, List.set_cons_zero, List.set_cons_succ, i64_w, i32_w]; rfl)
        exact norm_ (by simp only [putAll, Act.put, List.setIfInBounds_toArray, List.set_cons_zero, List.set_cons_succ]) (hCont (gb206) _ ⟨hHeld, (by (with_reducible repeat (first | apply Kd.R_alloc | apply Kd.R_drewN | apply Kd.R_drew)); exact HO200.out), (by (with_reducible repeat (first | refine blk_drewN ?_ _ | refine blk_drew ?_ | refine blk_alloc ?_ _)); exact BK197.out), (by (with_reducible repeat (first | refine blk_drewN ?_ _ | refine blk_drew ?_ | refine blk_alloc ?_ _)); exact BK206.out), GW206.out, GE206.out, NB197_206.out, NB206_197.out, hb_⟩)
      ·skip
       refine box_step ?hg (N := 5) ?hd (cs := #[.slice none 0 0, .int .i64 0, .int .i64 0]) (t := 35) ?hr ?_; (case hd => rfl); (case hg => rfl); (case hr => first | (go_simp; done) | (go_simp; rfl))
       intro gb206 hg w14 hbox hb
       have HS0_ := (hb.cell (World.block_lt_of_cell? _ _ (hHeld.1))).trans (hHeld.1)
       have HS1_ := (hb.cell (World.block_lt_of_cell? _ _ (hHeld.2))).trans (hHeld.2)
       replace HO200 := ak_ (Kd.R_below (by (with_reducible repeat (first | apply Kd.R_alloc | apply Kd.R_drewN | apply Kd.R_drew)); exact HO200.out) hb)
       have BK206 := ak_ hbox
       have GW206 := ak_ ((gs_ hg : w.heap.size ≤ gb206))
       have GE206 := ak_ ((gs_ hg : w.heap.size ≤ gb206))
       replace HB := ak_ (below_step hb_ hb)
       have NB197_206 := ak_ (nl_ hg (bk_ BK197))
       have NB206_197 := ak_ (ng_ hg (bk_ BK197))
       replace BK197 := ak_ (blk_below (bk_ BK197) hb)
       clear hb hbox hg
       refine hK.out _ _ ⟨HS0_, HS1_⟩ (fun hHeld => ?_)
       clear hK K
       refine norm_ (a' := ?_) ?_ ?_
       rotate_left
       ·show Act.put _ (some 5) _ = _
        simp only [Act.put, List.setIfInBounds_toArray, List.set_cons_zero, List.set_cons_succ, i64_w, i32_w]
        rfl
       refine one_ (i := 3) (N := some 19) impl_ParseSide.d0 rfl rfl (one_of HT_.out (by kernel_rfl)) (by decide) (fun K hK => ?_)
       refine goes_ Tryd.func48 (by kernel_rfl) rfl #[.string (rdOf ByteArray.empty t198 0)] (by rfl) rfl rfl (ma1_ rfl) ?_
       with_reducible refine (impl_atoi.calls (rdOf ByteArray.empty t198 0) t203 _ ?sideL A6.out).mono ?_
       (case sideL => refine lay_at HLAY.out ?_; repeat (first | (with_reducible first | exact HB.out | apply below_alloc | apply pw_below_drewN | apply below_drew1 | refine below_set ?_ GE197.out | refine below_set ?_ GE206.out) | exact HB.out))
       rintro e w15 ⟨rfl, hb⟩
       have HS0_ := (hb.cell (World.block_lt_of_cell? _ _ (hHeld.1))).trans (hHeld.1)
       have HS1_ := (hb.cell (World.block_lt_of_cell? _ _ (hHeld.2))).trans (hHeld.2)
       refine ⟨_, rfl, ?_⟩
       replace HO200 := ak_ (Kd.R_below (by (with_reducible repeat (first | apply Kd.R_alloc | apply Kd.R_drewN | apply Kd.R_drew)); exact HO200.out) hb)
       replace BK197 := ak_ (blk_below (bk_ BK197) hb)
       replace BK206 := ak_ (blk_below (bk_ BK206) hb)
       replace HB := ak_ (below_step hb_ hb)
       (try clear hb)
       (try clear hb2)
       (try clear hk)
       (try clear hi)
       refine hK.out _ _ ⟨HS0_, HS1_⟩ (fun hHeld => ?_)
       clear hK K
       refine norm_ (a' := ?_) ?_ ?_
       rotate_left
       ·show Act.put _ (some 19) _ = _
        simp only [Act.put, List.setIfInBounds_toArray, List.set_cons_zero, List.set_cons_succ, i64_w, i32_w]
        rfl
       refine one_ (i := 7) (N := some 23) impl_ParseSide.d1 rfl rfl (one_of HT_.out (by kernel_rfl)) (by decide) (fun K hK => ?_)
       refine goes_ Tryd.func48 (by kernel_rfl) rfl #[.string (rdOf ByteArray.empty t198 1)] (by rfl) rfl rfl (ma1_ rfl) ?_
       with_reducible refine (impl_atoi.calls (rdOf ByteArray.empty t198 1) t205 _ ?sideL A8.out).mono ?_
       (case sideL => refine lay_at HLAY.out ?_; repeat (first | (with_reducible first | exact HB.out | apply below_alloc | apply pw_below_drewN | apply below_drew1 | refine below_set ?_ GE197.out | refine below_set ?_ GE206.out) | exact HB.out))
       rintro e w16 ⟨rfl, hb⟩
       have HS0_ := (hb.cell (World.block_lt_of_cell? _ _ (hHeld.1))).trans (hHeld.1)
       have HS1_ := (hb.cell (World.block_lt_of_cell? _ _ (hHeld.2))).trans (hHeld.2)
       refine ⟨_, rfl, ?_⟩
       replace HO200 := ak_ (Kd.R_below (by (with_reducible repeat (first | apply Kd.R_alloc | apply Kd.R_drewN | apply Kd.R_drew)); exact HO200.out) hb)
       replace BK197 := ak_ (blk_below (bk_ BK197) hb)
       replace BK206 := ak_ (blk_below (bk_ BK206) hb)
       replace HB := ak_ (below_step hb_ hb)
       (try clear hb)
       (try clear hb2)
       (try clear hk)
       (try clear hi)
       refine hK.out _ _ ⟨HS0_, HS1_⟩ (fun hHeld => ?_)
       clear hK K
       refine norm_ (a' := ?_) ?_ ?_
       rotate_left
       ·show Act.put _ (some 23) _ = _
        simp only [Act.put, List.setIfInBounds_toArray, List.set_cons_zero, List.set_cons_succ, i64_w, i32_w]
        rfl
       refine pure_ (i := 8) (N := some 24) (v := ?_) (a' := ?_) impl_ParseSide.d2 rfl rfl (any_of HT_.out (by kernel_rfl)) (fun _ _ _ h => h) (Or.inl ⟨by rfl, ?_⟩) ?_ ?_; rotate_left; (intro w'; go_simp; with_reducible rfl); rotate_left; (simp only [Act.put, List.setIfInBounds_toArray, List.set_cons_zero, List.set_cons_succ, i64_w, i32_w]; rfl)
       exact norm_ (by simp only [putAll, Act.put, List.setIfInBounds_toArray, List.set_cons_zero, List.set_cons_succ]) (hCont (gb206) _ ⟨hHeld, (by (with_reducible repeat (first | apply Kd.R_alloc | apply Kd.R_drewN | apply Kd.R_drew)); exact HO200.out), (by (with_reducible repeat (first | refine blk_drewN ?_ _ | refine blk_drew ?_ | refine blk_alloc ?_ _)); exact BK197.out), (by (with_reducible repeat (first | refine blk_drewN ?_ _ | refine blk_drew ?_ | refine blk_alloc ?_ _)); exact BK206.out), GW206.out, GE206.out, NB197_206.out, NB206_197.out, hb_⟩)
     rintro gb206 w17 ⟨hS_, h0_, h1_, h2_, h3_, h4_, h5_, h6_, h7_⟩
     have n0_ : Aside0 (Kd.R Kd.string 9 w17 w.heap.size (fun _ => True) (.slice (some ad202) t198.length co12) t198) := ⟨h0_⟩
     have n1_ : Aside0 (w17.heap[gb197]? = some (.cells #[.slice none 0 0, .int .i64 0, .int .i64 0] 35 (0, 0))) := ⟨h1_⟩
     have n2_ : Aside0 (w17.heap[gb206]? = some (.cells #[.slice none 0 0, .int .i64 0, .int .i64 0] 35 (0, 0))) := ⟨h2_⟩
     have n3_ : Aside0 (w.heap.size ≤ gb206) := ⟨h3_⟩
     have n4_ : Aside0 (w.heap.size ≤ gb206) := ⟨h4_⟩
     have n5_ : Aside0 (gb197 ≠ gb206) := ⟨h5_⟩
     have n6_ : Aside0 (gb206 ≠ gb197) := ⟨h6_⟩
     have n7_ : Aside0 (Below w.heap.size w w17) := ⟨h7_⟩
     clear HO200
     clear BK197
     clear HB
     clear h0_ h1_ h2_ h3_ h4_ h5_ h6_ h7_
     have HO200 := n0_
     have BK197 := n1_
     have BK206 := n2_
     have GW206 := n3_
     have GE206 := n4_
     have NB197_206 := n5_
     have NB206_197 := n6_
     have HB := n7_
     clear n0_ n1_ n2_ n3_ n4_ n5_ n6_ n7_
     have hHeld : w17.cell? ad202 = some (.string (rdOf ByteArray.empty t198 0)) ∧ w17.cell? ⟨ad202.block, ad202.off + 1, none⟩ = some (.string (rdOf ByteArray.empty t198 1)) := hS_
     refine norm_ (a' := ?_) ?_ ?_
     rotate_left
     ·simp only [putAll, Act.put, List.setIfInBounds_toArray, List.set_cons_zero, List.set_cons_succ]
      rfl
     refine one_ (i := 10) (N := none) #[true, true, true, true, true, true, true, true, true, true, true] rfl rfl (one_of HT_.out (by kernel_rfl)) (by decide) (fun K hK => ?_)
     have hs18 : w17.cell? ⟨gb206, 0, none⟩ = some (.slice none 0 0) := (blk_cell BK206.out 0).trans rfl
     have hfs18 := blk_frozen BK206.out 0
     have hns18_0 := NB197_206.out
     have hms18_0 := NB206_197.out
     have hs19 : w17.cell? ⟨gb206, 1, none⟩ = some (.int .i64 0) := (blk_cell BK206.out 1).trans rfl
     have hfs19 := blk_frozen BK206.out 1
     have hns19_0 := NB197_206.out
     have hms19_0 := NB206_197.out
     have hs20 : w17.cell? ⟨gb206, 2, none⟩ = some (.int .i64 0) := (blk_cell BK206.out 2).trans rfl
     have hfs20 := blk_frozen BK206.out 2
     have hns20_0 := NB197_206.out
     have hms20_0 := NB206_197.out
     refine skip_ (w1 := ?_) (by rfl) rfl ?_ ?_
     rotate_left
     ·go_simp
      rfl
     refine hK.out _ _ ⟨((cell_far (p := ⟨gb206, _, none⟩) (by first | exact Kd.own_blk (Kd.R_ne HO200.out BK206.out (by decide)) | (rw [add_block]; exact Kd.own_blk (Kd.R_ne HO200.out BK206.out (by decide))) | (show (Addr.add _ _).block ≠ _; rw [add_block]; exact Kd.own_blk (Kd.R_ne HO200.out BK206.out (by decide))) | (dsimp only; exact Kd.own_blk (Kd.R_ne HO200.out BK206.out (by decide)))) _).trans (((cell_far (p := ⟨gb206, _, none⟩) (by first | exact Kd.own_blk (Kd.R_ne HO200.out BK206.out (by decide)) | (rw [add_block]; exact Kd.own_blk (Kd.R_ne HO200.out BK206.out (by decide))) | (show (Addr.add _ _).block ≠ _; rw [add_block]; exact Kd.own_blk (Kd.R_ne HO200.out BK206.out (by decide))) | (dsimp only; exact Kd.own_blk (Kd.R_ne HO200.out BK206.out (by decide)))) _).trans (((cell_far (p := ⟨gb206, _, none⟩) (by first | exact Kd.own_blk (Kd.R_ne HO200.out BK206.out (by decide)) | (rw [add_block]; exact Kd.own_blk (Kd.R_ne HO200.out BK206.out (by decide))) | (show (Addr.add _ _).block ≠ _; rw [add_block]; exact Kd.own_blk (Kd.R_ne HO200.out BK206.out (by decide))) | (dsimp only; exact Kd.own_blk (Kd.R_ne HO200.out BK206.out (by decide)))) _).trans (hHeld.1)))))), ((cell_far (p := ⟨gb206, _, none⟩) (by first | exact Kd.own_blk (Kd.R_ne HO200.out BK206.out (by decide)) | (rw [add_block]; exact Kd.own_blk (Kd.R_ne HO200.out BK206.out (by decide))) | (show (Addr.add _ _).block ≠ _; rw [add_block]; exact Kd.own_blk (Kd.R_ne HO200.out BK206.out (by decide))) | (dsimp only; exact Kd.own_blk (Kd.R_ne HO200.out BK206.out (by decide)))) _).trans (((cell_far (p := ⟨gb206, _, none⟩) (by first | exact Kd.own_blk (Kd.R_ne HO200.out BK206.out (by decide)) | (rw [add_block]; exact Kd.own_blk (Kd.R_ne HO200.out BK206.out (by decide))) | (show (Addr.add _ _).block ≠ _; rw [add_block]; exact Kd.own_blk (Kd.R_ne HO200.out BK206.out (by decide))) | (dsimp only; exact Kd.own_blk (Kd.R_ne HO200.out BK206.out (by decide)))) _).trans (((cell_far (p := ⟨gb206, _, none⟩) (by first | exact Kd.own_blk (Kd.R_ne HO200.out BK206.out (by decide)) | (rw [add_block]; exact Kd.own_blk (Kd.R_ne HO200.out BK206.out (by decide))) | (show (Addr.add _ _).block ≠ _; rw [add_block]; exact Kd.own_blk (Kd.R_ne HO200.out BK206.out (by decide))) | (dsimp only; exact Kd.own_blk (Kd.R_ne HO200.out BK206.out (by decide)))) _).trans (hHeld.2))))))⟩ (fun hHeld => ?_)
     clear hK K
     refine done_ (done_of HT_.out (by kernel_rfl)) ?_
     have n0_ : Aside0 (Kd.R Kd.string 9 (((w17.setCell ⟨gb206, 0, none⟩ (.slice none 0 0)).setCell ⟨gb206, 1, none⟩ (.int .i64 t203)).setCell ⟨gb206, 2, none⟩ (.int .i64 t205)) w.heap.size (fun _ => True) (.slice (some ad202) t198.length co12) t198) := ⟨by (with_reducible repeat (first | apply Kd.R_alloc | apply Kd.R_drewN | apply Kd.R_drew)); exact Kd.R_mono (Kd.R_far (p := ⟨gb206, 2, none⟩) (Kd.R_far (p := ⟨gb206, 1, none⟩) (Kd.R_far (p := ⟨gb206, 0, none⟩) (Kd.R_types HO200.out BK206.out (by decide)) (fun _ hk => hk.2) (.slice none 0 0)) (fun _ hk => hk.2) (.int .i64 t203)) (fun _ hk => hk.2) (.int .i64 t205)) (fun _ hk => trivial)⟩
     have n1_ : Aside0 ((((w17.setCell ⟨gb206, 0, none⟩ (.slice none 0 0)).setCell ⟨gb206, 1, none⟩ (.int .i64 t203)).setCell ⟨gb206, 2, none⟩ (.int .i64 t205)).heap[gb197]? = some (.cells #[.slice none 0 0, .int .i64 0, .int .i64 0] 35 (0, 0))) := ⟨by (with_reducible repeat (first | refine blk_drewN ?_ _ | refine blk_drew ?_ | refine blk_alloc ?_ _)); refine blk_far ?_ NB197_206.out _; (with_reducible repeat (first | refine blk_drewN ?_ _ | refine blk_drew ?_ | refine blk_alloc ?_ _)); refine blk_far ?_ NB197_206.out _; (with_reducible repeat (first | refine blk_drewN ?_ _ | refine blk_drew ?_ | refine blk_alloc ?_ _)); refine blk_far ?_ NB197_206.out _; (with_reducible repeat (first | refine blk_drewN ?_ _ | refine blk_drew ?_ | refine blk_alloc ?_ _)); exact BK197.out⟩
     have n2_ : Aside0 ((((w17.setCell ⟨gb206, 0, none⟩ (.slice none 0 0)).setCell ⟨gb206, 1, none⟩ (.int .i64 t203)).setCell ⟨gb206, 2, none⟩ (.int .i64 t205)).heap[gb206]? = some (.cells #[.slice none 0 0, .int .i64 t203, .int .i64 t205] 35 (0, 0))) := ⟨by (with_reducible repeat (first | refine blk_drewN ?_ _ | refine blk_drew ?_ | refine blk_alloc ?_ _)); refine blk_put (cs := #[.slice none 0 0, .int .i64 t203, .int .i64 0]) ?_ 2 _ rfl; (with_reducible repeat (first | refine blk_drewN ?_ _ | refine blk_drew ?_ | refine blk_alloc ?_ _)); refine blk_put (cs := #[.slice none 0 0, .int .i64 0, .int .i64 0]) ?_ 1 _ rfl; (with_reducible repeat (first | refine blk_drewN ?_ _ | refine blk_drew ?_ | refine blk_alloc ?_ _)); refine blk_put (cs := #[.slice none 0 0, .int .i64 0, .int .i64 0]) ?_ 0 _ rfl; (with_reducible repeat (first | refine blk_drewN ?_ _ | refine blk_drew ?_ | refine blk_alloc ?_ _)); exact BK206.out⟩
     have n3_ : Aside0 (Below w.heap.size w (((w17.setCell ⟨gb206, 0, none⟩ (.slice none 0 0)).setCell ⟨gb206, 1, none⟩ (.int .i64 t203)).setCell ⟨gb206, 2, none⟩ (.int .i64 t205))) := ⟨hb_⟩
     (try clear HO200)
     (try clear BK197)
     (try clear BK206)
     (try clear HB)
     generalize (((w17.setCell ⟨gb206, 0, none⟩ (.slice none 0 0)).setCell ⟨gb206, 1, none⟩ (.int .i64 t203)).setCell ⟨gb206, 2, none⟩ (.int .i64 t205)) = w21 at n0_ n1_ n2_ n3_ ⊢
     have HO200 := n0_
     have BK197 := n1_
     have BK206 := n2_
     have HB := n3_
     clear n0_ n1_ n2_ n3_
     have q22 : (2 : Int) ≤ ((t198.length : Int) : Int) := of_decide_eq_true (by first | (with_reducible assumption) | assumption)
     obtain ⟨i022, hi022, _, hsz22, _⟩ := info_parts info9
     have hroom22 : t198.length ≤ co12 := (Kd.R_reads' HO200.out).2.1
     have hC22 : Kd.C Kd.string _ (some ad202) t198.length t198 := (Kd.R_reads' HO200.out).2.2
     have hcut22 := cut_from (P := Tryd.prog) 82 9 .i64 Tryd.underlying82 hi022 1 hsz22 (some ad202) t198.length co12 2 (by omega) q22
     have hr22 := Kd.C_drop (m := (2 : Int).toNat) (c := co12) hC22 (by omega) hroom22
     obtain ⟨A22, hA22⟩ : ∃ A1, A1 = (if co12 = (2 : Int).toNat then (some ad202) else ((some ad202) : Option Addr).map (·.add ((2 : Int).toNat * 1))) := ⟨_, rfl⟩
     obtain ⟨c22, hc22⟩ : ∃ c1, c1 = co12 - (2 : Int).toNat := ⟨_, rfl⟩
     have hy22 : y207.length = t198.length - (2 : Int).toNat := (by rw [Ny207.out, List.length_drop] <;> omega)
     rw [show (t198).drop (2 : Int).toNat = y207 from Ny207.out.symm] at hr22
     replace hr22 : Kd.C Kd.string _ A22 y207.length y207 := (by rw [hA22]; exact hr22)
     rw [← hy22, ← hA22, ← hc22] at hcut22
     have HR210 := Aside0.mk hr22
     have HC210 := Aside0.mk (show y207.length ≤ c22 from by rw [hy22, hc22]; exact Nat.sub_le_sub_right hroom22 _)
     clear hr22 hC22 hroom22 hi022 hsz22 hc22
     have KY22 := Aside0.mk hy22
     have KA22 := Aside0.mk hA22
     clear hy22 hA22
     have KL22 := Aside0.mk (show 2 ≤ t198.length from by omega)
     replace q22 := eq_true q22
     try go_wp2
     go_loopg [28] k (fun kq v28 w' => ∃ (x28_1 : Int) (x198001_1 : Int) (x198002_1 : Int) (x207000_1 : List (S67)) (u207000 : Value), v28 = .int .i64 x28_1 ∧ Aside0 (impl_ParseSide.l0 kq a0 y207 (y207.length : Int) x28_1 x207000_1 t203 t205 = some (r1, r2, r3, r4)) ∧ Aside0 (kq ≤ k) ∧ Aside0 (Kd.R k67 67 w' w.heap.size (fun _ => True) u207000 x207000_1) ∧ Aside0 (w'.heap[gb197]? = some (.cells #[(.slice none 0 0), .int .i64 x198001_1, .int .i64 x198002_1] 35 (0, 0))) ∧ Aside0 (w'.heap[gb206]? = some (.cells #[u207000, .int .i64 t203, .int .i64 t205] 35 (0, 0))) ∧ Aside0 (Below w.heap.size w w') ∧ Aside0 (Kd.R Kd.string 9 w' w.heap.size (fun _ => True) (.slice (some ad202) t198.length co12) t198))
     case atStart => exact ⟨(0), (0), (0), (([] : List (S67))), (.slice none 0 0), (by first | rfl | (simp; done) | (simp [*]; done)), H', ⟨Nat.le_refl _⟩, ⟨by first | exact Kd.R_nil _ _ _ _ _ | exact Kd.N_nil _ _ _ _ _ | exact Kd.V_nil _ _ _ _ _ | exact Kd.Q_nil _ _ _ _ _ | exact Kd.S_nil _ _ _ _ _⟩, ⟨by (with_reducible repeat (first | refine blk_drewN ?_ _ | refine blk_drew ?_ | refine blk_alloc ?_ _)); exact BK197.out⟩, ⟨by (with_reducible repeat (first | refine blk_drewN ?_ _ | refine blk_drew ?_ | refine blk_alloc ?_ _)); exact BK206.out⟩, ⟨hb_⟩, ⟨by (with_reducible repeat (first | apply Kd.R_alloc | apply Kd.R_drewN | apply Kd.R_drew)); exact HO200.out⟩⟩
     case round =>
      clear H'
      try clear c1
      try clear c2
      try clear p2
      try clear q2
      try clear hx2
      try clear qi2
      try clear c4
      try clear c5
      try clear c5b0
      try clear c5b1
      try clear c7
      try clear c7b0
      try clear c7b1
      try clear c9
      try clear c9b0
      try clear c9b1
      try clear p20
      try clear q20
      try clear hx20
      try clear qi20
      try clear c21
      try clear c22
      try clear q22
      try clear hx202_0
      try clear hx204_0
      try clear p202
      try clear p204
      try clear q202
      try clear q204
      try clear q22
      obtain ⟨x28_1, x198001_1, x198002_1, x207000_1, u207000, rfl, HA, HK1, HO_207000, BK197, BK206, HB, HO200⟩ := hrel
      have HRq := Kd.C_drop (m := (2 : Int).toNat) (c := co12) (Kd.R_reads' HO200.out).2.2 (by have := KL22.out; omega) (Kd.R_reads' HO200.out).2.1
      rw [show (t198).drop (2 : Int).toNat = y207 from Ny207.out.symm] at HRq
      have HR210 := ak_ (show Kd.C Kd.string _ A22 y207.length y207 from (by rw [KA22.out]; exact HRq))
      clear HRq
      cases gk with
      | zero => exact absurd HA.out (by simp [impl_ParseSide.l0])
      | succ k1 =>
       have H := HA.out
       clear HA
       simp only [impl_ParseSide.l0] at H
       by_cases c23 : x28_1 < (y207.length : Int)
       ·rw [if_pos c23] at H
        have c23b0 : decide (x28_1 < (y207.length : Int)) = true := decide_eq_true c23
        clear c23
        by_cases c24 : 0 ≤ x28_1
        ·rw [if_pos c24] at H
         have c24b0 : decide (0 ≤ x28_1) = true := decide_eq_true c24
         clear c24
         by_cases c25 : x28_1 < (y207.length : Int)
         ·rw [if_pos c25] at H
          have c25b0 : decide (x28_1 < (y207.length : Int)) = true := decide_eq_true c25
          clear c25
          replace H := Option.bind_eq_some_iff.mp H
          obtain ⟨t212, A260, H⟩ := H
          replace H : (if (t212.length : Int) = 3 then (if 0 < (t212.length : Int) then ((impl_atoi.f (rdOf ByteArray.empty t212 0)).bind fun t216 => (if 1 < (t212.length : Int) then ((impl_atoi.f (rdOf ByteArray.empty t212 1)).bind fun t218 => (if 2 < (t212.length : Int) then ((impl_atoi.f (rdOf ByteArray.empty t212 2)).bind fun t220 => (if x207000_1.length < 5864062014805 then (impl_ParseSide.l0 k1 a0 y207 (y207.length : Int) (wrap64 (x28_1 + 1)) (x207000_1 ++ [(⟨t216, t218, t220⟩ : S67)]) t203 t205) else (none))) else (none))) else (none))) else (none)) else (some (([] : List (S67)), 0, 0, false))) = some (r1, r2, r3, r4) := H
          have A26 := Aside0.mk A260
          clear A260
          by_cases c27 : (t212.length : Int) = 3
          ·rw [if_pos c27] at H
           have c27b0 : ((t212.length : Int) == 3) = true := beq_iff_eq.mpr c27
           have c27b1 : ((t212.length : Int) != 3) = false := bne_eq_false_iff_eq.mpr c27
           clear c27
           by_cases c28 : 0 < (t212.length : Int)
           ·rw [if_pos c28] at H
            have c28b0 : decide (0 < (t212.length : Int)) = true := decide_eq_true c28
            have c28b1 : decide (0 < t212.length) = true := decide_eq_true (by omega)
            clear c28
            replace H := Option.bind_eq_some_iff.mp H
            obtain ⟨t216, A290, H⟩ := H
            replace H : (if 1 < (t212.length : Int) then ((impl_atoi.f (rdOf ByteArray.empty t212 1)).bind fun t218 => (if 2 < (t212.length : Int) then ((impl_atoi.f (rdOf ByteArray.empty t212 2)).bind fun t220 => (if x207000_1.length < 5864062014805 then (impl_ParseSide.l0 k1 a0 y207 (y207.length : Int) (wrap64 (x28_1 + 1)) (x207000_1 ++ [(⟨t216, t218, t220⟩ : S67)]) t203 t205) else (none))) else (none))) else (none)) = some (r1, r2, r3, r4) := H
            have A29 := Aside0.mk A290
            clear A290
            by_cases c30 : 1 < (t212.length : Int)
            ·rw [if_pos c30] at H
             have c30b0 : decide (1 < (t212.length : Int)) = true := decide_eq_true c30
             have c30b1 : decide (1 < t212.length) = true := decide_eq_true (by omega)
             clear c30
             replace H := Option.bind_eq_some_iff.mp H
             obtain ⟨t218, A310, H⟩ := H
             replace H : (if 2 < (t212.length : Int) then ((impl_atoi.f (rdOf ByteArray.empty t212 2)).bind fun t220 => (if x207000_1.length < 5864062014805 then (impl_ParseSide.l0 k1 a0 y207 (y207.length : Int) (wrap64 (x28_1 + 1)) (x207000_1 ++ [(⟨t216, t218, t220⟩ : S67)]) t203 t205) else (none))) else (none)) = some (r1, r2, r3, r4) := H
             have A31 := Aside0.mk A310
             clear A310
             by_cases c32 : 2 < (t212.length : Int)
             ·rw [if_pos c32] at H
              have c32b0 : decide (2 < (t212.length : Int)) = true := decide_eq_true c32
              have c32b1 : decide (2 < t212.length) = true := decide_eq_true (by omega)
              clear c32
              replace H := Option.bind_eq_some_iff.mp H
              obtain ⟨t220, A330, H⟩ := H
              replace H : (if x207000_1.length < 5864062014805 then (impl_ParseSide.l0 k1 a0 y207 (y207.length : Int) (wrap64 (x28_1 + 1)) (x207000_1 ++ [(⟨t216, t218, t220⟩ : S67)]) t203 t205) else (none)) = some (r1, r2, r3, r4) := H
              have A33 := Aside0.mk A330
              clear A330
              by_cases c34 : x207000_1.length < 5864062014805
              ·rw [if_pos c34] at H
               have LMc34 := Aside0.mk c34
               clear c34
               obtain ⟨y221, hy221⟩ : ∃ y_ : List (S67), y_ = (x207000_1 ++ [(⟨t216, t218, t220⟩ : S67)]) := ⟨_, rfl⟩
               replace H : (impl_ParseSide.l0 k1 a0 y207 (y207.length : Int) (wrap64 (x28_1 + 1)) y221 t203 t205) = some (r1, r2, r3, r4) := by first | (rw [hy221]; with_reducible exact H) | (have H2_ := (Option.bind_some _ _).symm.trans H; rw [hy221]; with_reducible exact H2_) | (have H2_ := (Option.bind_some _ _).symm.trans H; with_reducible exact H2_) | with_reducible exact H | (rw [hy221]; exact H) | exact H
               have Ny221 := Aside0.mk hy221
               clear hy221
               have H' := Aside0.mk H
               clear H
               have p211 : 0 ≤ (x28_1 : Int) := of_decide_eq_true (by first | (with_reducible assumption) | assumption)
               have q211 : x28_1 < (y207.length : Int) := of_decide_eq_true (by first | (with_reducible assumption) | assumption)
               obtain ⟨ad211, e211, hx211_0⟩ := Kd.at_string HR210.out x28_1 p211 q211
               cases e211
               replace p211 := eq_true p211
               replace q211 := eq_true q211
               try go_wp2_with (first | ((with_reducible refine gate_callee (f := 46) rfl ?_); refine goesL_ (some 33) rfl rfl Tryd.func46 (by kernel_rfl) rfl #[.string (rdOf ByteArray.empty y207 x28_1), .string (⟨#[58]⟩ : ByteArray)] rfl (ma2_ rfl rfl) ?_; (with_reducible refine (strings_Split.calls (rdOf ByteArray.empty y207 x28_1) (⟨#[58]⟩ : ByteArray) t212 _ ?sideL A26.out).mono ?_); (case sideL => refine lay_at HLAY.out ?_; repeat (first | (with_reducible first | exact HB.out | apply below_alloc | apply pw_below_drewN | apply below_drew1 | refine below_set ?_ GE197.out | refine below_set ?_ GE206.out) | exact HB.out)); rintro e w35 ⟨v213, rfl, ho0, hb⟩; refine ⟨_, rfl, ?_⟩; (try replace HO200 := ak_ (Kd.R_below (by (with_reducible repeat (first | apply Kd.R_alloc | apply Kd.R_drewN | apply Kd.R_drew)); exact HO200.out) hb)); replace HO_207000 := ak_ (Kd.R_below (by (with_reducible repeat (first | apply Kd.R_alloc | apply Kd.R_drewN | apply Kd.R_drew)); exact HO_207000.out) hb); have HO214 := ak_ (Kd.R_lower ho0 (below_size hb_)); replace BK197 := ak_ (blk_below (bk_ BK197) hb); replace BK206 := ak_ (blk_below (bk_ BK206) hb); replace HB := ak_ (below_step hb_ hb); (try clear hb); (try clear ho0); obtain ⟨Ao36, co36, eo36⟩ := Kd.R_slice HO214.out; subst eo36))
               (try replace HO200 := ak_ (Kd.R_drew HO200.out))
               replace HO_207000 := ak_ (Kd.R_drew HO_207000.out)
               replace HO214 := ak_ (Kd.R_drew HO214.out)
               replace BK197 := ak_ (blk_drew BK197.out)
               replace BK206 := ak_ (blk_drew BK206.out)
               replace HB := ak_ (below_drew1 HB.out)
               have p215 : 0 ≤ (0 : Int) := (by omega)
               have q215 : 0 < (t212.length : Int) := of_decide_eq_true (by first | (with_reducible assumption) | assumption)
               obtain ⟨ad215, e215, hx215_0⟩ := Kd.at_string (Kd.R_reads' HO214.out).2.2 0 p215 q215
               cases e215
               have qi215 : (0 < t212.length) = True := eq_true (by omega)
               (try rw [show ((0 : Int)).toNat = 0 from rfl] at hx215_0)
               (try rw [Addr.add_zero'] at hx215_0)
               replace p215 := eq_true p215
               replace q215 := eq_true q215
               have p217 : 0 ≤ (1 : Int) := (by omega)
               have q217 : 1 < (t212.length : Int) := of_decide_eq_true (by first | (with_reducible assumption) | assumption)
               obtain ⟨ad217, e217, hx217_0⟩ := Kd.at_string (Kd.R_reads' HO214.out).2.2 1 p217 q217
               obtain rfl : ad215 = ad217 := (by injection e217)
               (try simp only [show (1 : Int).toNat = 1 from rfl, Nat.reduceMul, Nat.reduceEqDiff, Go.Addr.add, ↓reduceIte] at hx217_0)
               have qi217 : (1 < t212.length) = True := eq_true (by omega)
               (try rw [show ((1 : Int)).toNat = 1 from rfl] at hx217_0)
               replace p217 := eq_true p217
               replace q217 := eq_true q217
               have p219 : 0 ≤ (2 : Int) := (by omega)
               have q219 : 2 < (t212.length : Int) := of_decide_eq_true (by first | (with_reducible assumption) | assumption)
               obtain ⟨ad219, e219, hx219_0⟩ := Kd.at_string (Kd.R_reads' HO214.out).2.2 2 p219 q219
               obtain rfl : ad215 = ad219 := (by injection e219)
               (try simp only [show (2 : Int).toNat = 2 from rfl, Nat.reduceMul, Nat.reduceEqDiff, Go.Addr.add, ↓reduceIte] at hx219_0)
               have qi219 : (2 < t212.length) = True := eq_true (by omega)
               (try rw [show ((2 : Int)).toNat = 2 from rfl] at hx219_0)
               replace p219 := eq_true p219
               replace q219 := eq_true q219
               refine start_ (n := 19) (S := fun w' => w'.cell? ⟨gb206, 0, none⟩ = some (u207000) ∧ w'.cell? ⟨gb206, 1, none⟩ = some (.int .i64 t203) ∧ w'.cell? ⟨gb206, 2, none⟩ = some (.int .i64 t205) ∧ w'.cell? ad215 = some (.string (rdOf ByteArray.empty t212 0)) ∧ w'.cell? ⟨ad215.block, ad215.off + 1, none⟩ = some (.string (rdOf ByteArray.empty t212 1)) ∧ w'.cell? ⟨ad215.block, ad215.off + 2, none⟩ = some (.string (rdOf ByteArray.empty t212 2))) (ds := [16, 18]) #[false, false, false, false, false, false, false, false, false, false, false, false, false, false, false, false, false, false, false] (by kernel_rfl) rfl rfl ⟨(blk_cell BK206.out 0).trans rfl, (blk_cell BK206.out 1).trans rfl, (blk_cell BK206.out 2).trans rfl, hx215_0, hx217_0, hx219_0⟩ (fun hHeld => ?_); refine with_tabW impl_ParseSide.tab11 impl_ParseSide.bits11 (fun HT_ HW_ => ?_)
               generalize w35.drew = w37 at HO200 HO_207000 HO214 BK197 BK206 HB hx215_0 hx217_0 hx219_0 hHeld ⊢
               refine pure_ (i := 0) (N := some 38) (v := ?_) (a' := ?_) #[true, false, false, false, false, false, false, false, false, false, false, false, false, false, false, false, false, false, false] rfl rfl (any_of HT_.out (by kernel_rfl)) (fun _ _ _ h => h) (Or.inl ⟨by rfl, ?_⟩) ?_ ?_; rotate_left; (intro w'; go_simp; with_reducible rfl); rotate_left; (simp only [Act.put, List.setIfInBounds_toArray, List.set_cons_zero, List.set_cons_succ, i64_w, i32_w]; rfl)
               refine pure_ (i := 2) (N := some 40) (v := ?_) (a' := ?_) #[true, false, true, false, false, false, false, false, false, false, false, false, false, false, false, false, false, false, false] rfl rfl (any_of HT_.out (by kernel_rfl)) (fun _ _ _ h => h) (Or.inl ⟨by rfl, ?_⟩) ?_ ?_; rotate_left; (intro w'; go_simp; with_reducible rfl); rotate_left; (simp only [Act.put, List.setIfInBounds_toArray, List.set_cons_zero, List.set_cons_succ, i64_w, i32_w]; rfl)
               refine pure_ (i := 3) (N := some 41) (v := ?_) (a' := ?_) #[true, false, true, true, false, false, false, false, false, false, false, false, false, false, false, false, false, false, false] rfl rfl (any_of HT_.out (by kernel_rfl)) (fun _ _ _ h => h) (Or.inl ⟨by rfl, ?_⟩) ?_ ?_; rotate_left; (intro w'; go_simp; with_reducible rfl); rotate_left; (simp only [Act.put, List.setIfInBounds_toArray, List.set_cons_zero, List.set_cons_succ, i64_w, i32_w]; rfl)
               refine pure_ (i := 6) (N := some 44) (v := ?_) (a' := ?_) #[true, false, true, true, false, false, true, false, false, false, false, false, false, false, false, false, false, false, false] rfl rfl (any_of HT_.out (by kernel_rfl)) (fun _ _ _ h => h) (Or.inl ⟨by rfl, ?_⟩) ?_ ?_; rotate_left; (intro w'; go_simp; with_reducible rfl); rotate_left; (simp only [Act.put, List.setIfInBounds_toArray, List.set_cons_zero, List.set_cons_succ, i64_w, i32_w]; rfl)
               refine pure_ (i := 7) (N := some 45) (v := ?_) (a' := ?_) #[true, false, true, true, false, false, true, true, false, false, false, false, false, false, false, false, false, false, false] rfl rfl (any_of HT_.out (by kernel_rfl)) (fun _ _ _ h => h) (Or.inl ⟨by rfl, ?_⟩) ?_ ?_; rotate_left; (intro w'; go_simp; with_reducible rfl); rotate_left; (simp only [Act.put, List.setIfInBounds_toArray, List.set_cons_zero, List.set_cons_succ, i64_w, i32_w]; rfl)
               refine pure_ (i := 10) (N := some 48) (v := ?_) (a' := ?_) #[true, false, true, true, false, false, true, true, false, false, true, false, false, false, false, false, false, false, false] rfl rfl (any_of HT_.out (by kernel_rfl)) (fun _ _ _ h => h) (Or.inl ⟨by rfl, ?_⟩) ?_ ?_; rotate_left; (intro w'; go_simp; with_reducible rfl); rotate_left; (simp only [Act.put, List.setIfInBounds_toArray, List.set_cons_zero, List.set_cons_succ, i64_w, i32_w]; rfl)
               refine pure_ (i := 11) (N := some 49) (v := ?_) (a' := ?_) #[true, false, true, true, false, false, true, true, false, false, true, true, false, false, false, false, false, false, false] rfl rfl (any_of HT_.out (by kernel_rfl)) (fun _ _ _ h => h) (Or.inl ⟨by rfl, ?_⟩) ?_ ?_; rotate_left; (intro w'; go_simp; with_reducible rfl); rotate_left; (simp only [Act.put, List.setIfInBounds_toArray, List.set_cons_zero, List.set_cons_succ, i64_w, i32_w]; rfl)
               refine take_ (i := 1) (N := some 39) (v := ?_) (a' := ?_) #[true, true, true, true, false, false, true, true, false, false, true, true, false, false, false, false, false, false, false] rfl rfl (take_ofW HT_.out HW_.out (by kernel_rfl)) (fun _ _ _ h => h) (Or.inl ⟨by rfl, ?_⟩) hHeld ?_ ?_; rotate_left; (rintro w' ⟨s0, s1, s2, s3, s4, s5⟩; go_simp; with_reducible rfl); rotate_left; (simp only [Act.put, List.setIfInBounds_toArray, List.set_cons_zero, List.set_cons_succ, i64_w, i32_w]; rfl)
               refine take_ (i := 4) (N := some 42) (v := ?_) (a' := ?_) #[true, true, true, true, true, false, true, true, false, false, true, true, false, false, false, false, false, false, false] rfl rfl (take_ofW HT_.out HW_.out (by kernel_rfl)) (fun _ _ _ h => h) (Or.inl ⟨by rfl, ?_⟩) hHeld ?_ ?_; rotate_left; (rintro w' ⟨s0, s1, s2, s3, s4, s5⟩; go_simp; with_reducible rfl); rotate_left; (simp only [Act.put, List.setIfInBounds_toArray, List.set_cons_zero, List.set_cons_succ, i64_w, i32_w]; rfl)
               refine take_ (i := 8) (N := some 46) (v := ?_) (a' := ?_) #[true, true, true, true, true, false, true, true, true, false, true, true, false, false, false, false, false, false, false] rfl rfl (take_ofW HT_.out HW_.out (by kernel_rfl)) (fun _ _ _ h => h) (Or.inl ⟨by rfl, ?_⟩) hHeld ?_ ?_; rotate_left; (rintro w' ⟨s0, s1, s2, s3, s4, s5⟩; go_simp; with_reducible rfl); rotate_left; (simp only [Act.put, List.setIfInBounds_toArray, List.set_cons_zero, List.set_cons_succ, i64_w, i32_w]; rfl)
               refine take_ (i := 12) (N := some 50) (v := ?_) (a' := ?_) #[true, true, true, true, true, false, true, true, true, false, true, true, true, false, false, false, false, false, false] rfl rfl (take_ofW HT_.out HW_.out (by kernel_rfl)) (fun _ _ _ h => h) (Or.inl ⟨by rfl, ?_⟩) hHeld ?_ ?_; rotate_left; (rintro w' ⟨s0, s1, s2, s3, s4, s5⟩; go_simp; with_reducible rfl); rotate_left; (simp only [Act.put, List.setIfInBounds_toArray, List.set_cons_zero, List.set_cons_succ, i64_w, i32_w]; rfl)
               refine one_ (i := 5) (N := some 43) #[true, true, true, true, true, true, true, true, true, false, true, true, true, false, false, false, false, false, false] rfl rfl (one_of HT_.out (by kernel_rfl)) (by decide) (fun K hK => ?_)
               refine goes_ Tryd.func48 (by kernel_rfl) rfl #[.string (rdOf ByteArray.empty t212 0)] (by rfl) rfl rfl (ma1_ rfl) ?_
               with_reducible refine (impl_atoi.calls (rdOf ByteArray.empty t212 0) t216 _ ?sideL A29.out).mono ?_
               (case sideL => refine lay_at HLAY.out ?_; repeat (first | (with_reducible first | exact HB.out | apply below_alloc | apply pw_below_drewN | apply below_drew1 | refine below_set ?_ GE197.out | refine below_set ?_ GE206.out) | exact HB.out))
               rintro e w38 ⟨rfl, hb⟩
               have HS3_ := (hb.cell (World.block_lt_of_cell? _ _ (hHeld.2.2.2.1))).trans (hHeld.2.2.2.1)
               have HS4_ := (hb.cell (World.block_lt_of_cell? _ _ (hHeld.2.2.2.2.1))).trans (hHeld.2.2.2.2.1)
               have HS5_ := (hb.cell (World.block_lt_of_cell? _ _ (hHeld.2.2.2.2.2))).trans (hHeld.2.2.2.2.2)
               refine ⟨_, rfl, ?_⟩
               (try replace HO200 := ak_ (Kd.R_below (by (with_reducible repeat (first | apply Kd.R_alloc | apply Kd.R_drewN | apply Kd.R_drew)); exact HO200.out) hb))
               replace HO_207000 := ak_ (Kd.R_below (by (with_reducible repeat (first | apply Kd.R_alloc | apply Kd.R_drewN | apply Kd.R_drew)); exact HO_207000.out) hb)
               replace HO214 := ak_ (Kd.R_below (by (with_reducible repeat (first | apply Kd.R_alloc | apply Kd.R_drewN | apply Kd.R_drew)); exact HO214.out) hb)
               replace BK197 := ak_ (blk_below (bk_ BK197) hb)
               replace BK206 := ak_ (blk_below (bk_ BK206) hb)
               replace HB := ak_ (below_step hb_ hb)
               (try clear hb)
               (try clear hb2)
               (try clear hk)
               (try clear hi)
               refine hK.out _ _ ⟨(blk_cell BK206.out 0).trans rfl, (blk_cell BK206.out 1).trans rfl, (blk_cell BK206.out 2).trans rfl, HS3_, HS4_, HS5_⟩ (fun hHeld => ?_)
               clear hK K
               refine norm_ (a' := ?_) ?_ ?_
               rotate_left
               ·show Act.put _ (some 43) _ = _
                simp only [Act.put, List.setIfInBounds_toArray, List.set_cons_zero, List.set_cons_succ, i64_w, i32_w]
                rfl
               refine one_ (i := 9) (N := some 47) #[true, true, true, true, true, true, true, true, true, true, true, true, true, false, false, false, false, false, false] rfl rfl (one_of HT_.out (by kernel_rfl)) (by decide) (fun K hK => ?_)
               refine goes_ Tryd.func48 (by kernel_rfl) rfl #[.string (rdOf ByteArray.empty t212 1)] (by rfl) rfl rfl (ma1_ rfl) ?_
               with_reducible refine (impl_atoi.calls (rdOf ByteArray.empty t212 1) t218 _ ?sideL A31.out).mono ?_
               (case sideL => refine lay_at HLAY.out ?_; repeat (first | (with_reducible first | exact HB.out | apply below_alloc | apply pw_below_drewN | apply below_drew1 | refine below_set ?_ GE197.out | refine below_set ?_ GE206.out) | exact HB.out))
               rintro e w39 ⟨rfl, hb⟩
               have HS3_ := (hb.cell (World.block_lt_of_cell? _ _ (hHeld.2.2.2.1))).trans (hHeld.2.2.2.1)
               have HS4_ := (hb.cell (World.block_lt_of_cell? _ _ (hHeld.2.2.2.2.1))).trans (hHeld.2.2.2.2.1)
               have HS5_ := (hb.cell (World.block_lt_of_cell? _ _ (hHeld.2.2.2.2.2))).trans (hHeld.2.2.2.2.2)
               refine ⟨_, rfl, ?_⟩
               (try replace HO200 := ak_ (Kd.R_below (by (with_reducible repeat (first | apply Kd.R_alloc | apply Kd.R_drewN | apply Kd.R_drew)); exact HO200.out) hb))
               replace HO_207000 := ak_ (Kd.R_below (by (with_reducible repeat (first | apply Kd.R_alloc | apply Kd.R_drewN | apply Kd.R_drew)); exact HO_207000.out) hb)
               replace HO214 := ak_ (Kd.R_below (by (with_reducible repeat (first | apply Kd.R_alloc | apply Kd.R_drewN | apply Kd.R_drew)); exact HO214.out) hb)
               replace BK197 := ak_ (blk_below (bk_ BK197) hb)
               replace BK206 := ak_ (blk_below (bk_ BK206) hb)
               replace HB := ak_ (below_step hb_ hb)
               (try clear hb)
               (try clear hb2)
               (try clear hk)
               (try clear hi)
               refine hK.out _ _ ⟨(blk_cell BK206.out 0).trans rfl, (blk_cell BK206.out 1).trans rfl, (blk_cell BK206.out 2).trans rfl, HS3_, HS4_, HS5_⟩ (fun hHeld => ?_)
               clear hK K
               refine norm_ (a' := ?_) ?_ ?_
               rotate_left
               ·show Act.put _ (some 47) _ = _
                simp only [Act.put, List.setIfInBounds_toArray, List.set_cons_zero, List.set_cons_succ, i64_w, i32_w]
                rfl
               refine one_ (i := 13) (N := some 51) #[true, true, true, true, true, true, true, true, true, true, true, true, true, true, false, false, false, false, false] rfl rfl (one_of HT_.out (by kernel_rfl)) (by decide) (fun K hK => ?_)
               refine goes_ Tryd.func48 (by kernel_rfl) rfl #[.string (rdOf ByteArray.empty t212 2)] (by rfl) rfl rfl (ma1_ rfl) ?_
               with_reducible refine (impl_atoi.calls (rdOf ByteArray.empty t212 2) t220 _ ?sideL A33.out).mono ?_
               (case sideL => refine lay_at HLAY.out ?_; repeat (first | (with_reducible first | exact HB.out | apply below_alloc | apply pw_below_drewN | apply below_drew1 | refine below_set ?_ GE197.out | refine below_set ?_ GE206.out) | exact HB.out))
               rintro e w40 ⟨rfl, hb⟩
               have HS3_ := (hb.cell (World.block_lt_of_cell? _ _ (hHeld.2.2.2.1))).trans (hHeld.2.2.2.1)
               have HS4_ := (hb.cell (World.block_lt_of_cell? _ _ (hHeld.2.2.2.2.1))).trans (hHeld.2.2.2.2.1)
               have HS5_ := (hb.cell (World.block_lt_of_cell? _ _ (hHeld.2.2.2.2.2))).trans (hHeld.2.2.2.2.2)
               refine ⟨_, rfl, ?_⟩
               (try replace HO200 := ak_ (Kd.R_below (by (with_reducible repeat (first | apply Kd.R_alloc | apply Kd.R_drewN | apply Kd.R_drew)); exact HO200.out) hb))
               replace HO_207000 := ak_ (Kd.R_below (by (with_reducible repeat (first | apply Kd.R_alloc | apply Kd.R_drewN | apply Kd.R_drew)); exact HO_207000.out) hb)
               replace HO214 := ak_ (Kd.R_below (by (with_reducible repeat (first | apply Kd.R_alloc | apply Kd.R_drewN | apply Kd.R_drew)); exact HO214.out) hb)
               replace BK197 := ak_ (blk_below (bk_ BK197) hb)
               replace BK206 := ak_ (blk_below (bk_ BK206) hb)
               replace HB := ak_ (below_step hb_ hb)
               (try clear hb)
               (try clear hb2)
               (try clear hk)
               (try clear hi)
               refine hK.out _ _ ⟨(blk_cell BK206.out 0).trans rfl, (blk_cell BK206.out 1).trans rfl, (blk_cell BK206.out 2).trans rfl, HS3_, HS4_, HS5_⟩ (fun hHeld => ?_)
               clear hK K
               refine norm_ (a' := ?_) ?_ ?_
               rotate_left
               ·show Act.put _ (some 51) _ = _
                simp only [Act.put, List.setIfInBounds_toArray, List.set_cons_zero, List.set_cons_succ, i64_w, i32_w]
                rfl
               refine pure_ (i := 14) (N := some 52) (v := ?_) (a' := ?_) #[true, true, true, true, true, true, true, true, true, true, true, true, true, true, true, false, false, false, false] rfl rfl (any_of HT_.out (by kernel_rfl)) (fun _ _ _ h => h) (Or.inl ⟨by rfl, ?_⟩) ?_ ?_; rotate_left; (intro w'; go_simp; with_reducible rfl); rotate_left; (simp only [Act.put, List.setIfInBounds_toArray, List.set_cons_zero, List.set_cons_succ, i64_w, i32_w]; rfl)
               refine one_ (i := 15) (N := some 53) #[true, true, true, true, true, true, true, true, true, true, true, true, true, true, true, true, false, false, false] rfl rfl (one_of HT_.out (by kernel_rfl)) (by decide) (fun K hK => ?_)
               refine value_ (w1 := ?_) (v := ?_) (by rfl) rfl ?_ ?_
               rotate_left 2
               ·go_simp
                constructor
                ·rfl
                ·rfl
               refine hK.out _ _ ⟨(blk_cell (blk_alloc BK206.out _) 0).trans rfl, (blk_cell (blk_alloc BK206.out _) 1).trans rfl, (blk_cell (blk_alloc BK206.out _) 2).trans rfl, (World.cell?_alloc_lt _ _ _ (World.block_lt_of_cell? _ _ (hHeld.2.2.2.1))).trans (hHeld.2.2.2.1), (World.cell?_alloc_lt _ _ _ (World.block_lt_of_cell? _ _ (hHeld.2.2.2.2.1))).trans (hHeld.2.2.2.2.1), (World.cell?_alloc_lt _ _ _ (World.block_lt_of_cell? _ _ (hHeld.2.2.2.2.2))).trans (hHeld.2.2.2.2.2)⟩ (fun hHeld => ?_)
               clear hK K
               refine norm_ (a' := ?_) ?_ ?_
               rotate_left
               ·show Act.put _ (some 53) _ = _
                simp only [Act.put, List.setIfInBounds_toArray, List.set_cons_zero, List.set_cons_succ, i64_w, i32_w]
                rfl
               refine last_ (i := 16) (N := some 54) #[true, true, true, true, true, true, true, true, true, true, true, true, true, true, true, true, true, false, false] rfl rfl (one_of HT_.out (by kernel_rfl)) (by decide) (fun K hK => ?_)
               refine Kd.R_append_step k67 (w0 := w) w.heap.size (by rfl) (.tmp 39) (.tmp 53) 33 67 (.agg #[(.int .i64 0), (.int .i64 0), (.int .i64 0)]) 24 rfl Tryd.underlying33 info67 rfl (by decide) (by omega) u207000 x207000_1 (⟨t216, t218, t220⟩ : S67) [.int .i64 t216, .int .i64 t218, .int .i64 t220] (fun _ => True) (fun _ => False) rfl rfl ?aP (fun _ hk => hk.elim) ?aF ?aO ?aB ?aS ?aL ?_
               (case aP => exact k67_mkM _ _ _ (⟨t216, t218, t220⟩ : S67))
               (case aB => exact hb_)
               (case aF => exact (fun _ _ => trivial))
               (case aO => exact (by (with_reducible repeat (first | apply Kd.R_alloc | apply Kd.R_drewN | apply Kd.R_drew)); exact HO_207000.out))
               (case aS => exact (below_size hb_))
               (case aL => have := LMc34.out; omega)
               intro v222 w41 ho hb hg hat
               rw [← Ny221.out] at ho
               replace BK197 := ak_ (blk_grown (bk_ BK197) hg (Kd.R_ne HO_207000.out BK197.out (by decide)))
               replace BK206 := ak_ (blk_grown (bk_ BK206) hg (Kd.R_ne HO_207000.out BK206.out (by decide)))
               replace HO200 := ak_ (Kd.R_over' (by (with_reducible repeat (first | apply Kd.R_alloc | apply Kd.R_drewN | apply Kd.R_drew)); exact HO200.out) (Kd.R_typed (by (with_reducible repeat (first | apply Kd.R_alloc | apply Kd.R_drewN | apply Kd.R_drew)); exact HO_207000.out)) (by decide) hg)
               replace HO214 := ak_ (Kd.R_over' (by (with_reducible repeat (first | apply Kd.R_alloc | apply Kd.R_drewN | apply Kd.R_drew)); exact HO214.out) (Kd.R_typed (by (with_reducible repeat (first | apply Kd.R_alloc | apply Kd.R_drewN | apply Kd.R_drew)); exact HO_207000.out)) (by decide) hg)
               replace HB := ak_ hb
               have HO223 := ak_ ho
               clear HO_207000
               clear ho hb hg hat
               obtain ⟨Ao42, co42, eo42⟩ := Kd.R_slice HO223.out
               (first | subst eo42 | (injection eo42 with f1_ f2_ f3_; have f4_ := f1_.symm; have f5_ := f3_.symm; clear f1_ f2_ f3_; subst f4_; subst f5_))
               refine hK.out _ _ ?_
               clear hK K
               refine norm_ (a' := ?_) ?_ ?_
               rotate_left
               ·show Act.put _ (some 54) _ = _
                simp only [Act.put, List.setIfInBounds_toArray, List.set_cons_zero, List.set_cons_succ, i64_w, i32_w]
                rfl
               refine pure_ (i := 17) (N := some 55) (v := ?_) (a' := ?_) #[true, true, true, true, true, true, true, true, true, true, true, true, true, true, true, true, true, true, false] rfl rfl (any_of HT_.out (by kernel_rfl)) (fun _ _ _ h => h) (Or.inl ⟨by rfl, ?_⟩) ?_ ?_; rotate_left; (intro w'; go_simp; with_reducible rfl); rotate_left; (simp only [Act.put, List.setIfInBounds_toArray, List.set_cons_zero, List.set_cons_succ, i64_w, i32_w]; rfl)
               refine last_ (i := 18) (N := none) #[true, true, true, true, true, true, true, true, true, true, true, true, true, true, true, true, true, true, true] rfl rfl (one_of HT_.out (by kernel_rfl)) (by decide) (fun K hK => ?_)
               have hs43 : w41.cell? ⟨gb206, 0, none⟩ = some (u207000) := (blk_cell BK206.out 0).trans rfl
               have hfs43 := blk_frozen BK206.out 0
               have hns43_0 := NB197_206.out
               have hms43_0 := NB206_197.out
               refine skip_ (w1 := ?_) (by rfl) rfl ?_ ?_
               rotate_left
               ·go_simp
                rfl
               refine hK.out _ _ ?_
               clear hK K
               refine done_ (done_of HT_.out (by kernel_rfl)) ?_
               try go_wp2
               go_roundg k1
               case measure => have := HK1.out; omega
               case rel => exact ⟨(wrap64 (x28_1 + 1)), (x198001_1), (x198002_1), (y221), (.slice Ao42 y221.length co42), (by first | rfl | (simp; done) | (simp [*]; done)), H', ⟨by have := HK1.out; omega⟩, ⟨by (with_reducible repeat (first | apply Kd.R_alloc | apply Kd.R_drewN | apply Kd.R_drew)); exact Kd.R_mono (Kd.R_far (p := ⟨gb206, 0, none⟩) (Kd.R_types HO223.out BK206.out (by decide)) (fun _ hk => hk.2) (.slice Ao42 y221.length co42)) (fun _ hk => trivial)⟩, ⟨by (with_reducible repeat (first | refine blk_drewN ?_ _ | refine blk_drew ?_ | refine blk_alloc ?_ _)); refine blk_far ?_ NB197_206.out _; (with_reducible repeat (first | refine blk_drewN ?_ _ | refine blk_drew ?_ | refine blk_alloc ?_ _)); exact BK197.out⟩, ⟨by (with_reducible repeat (first | refine blk_drewN ?_ _ | refine blk_drew ?_ | refine blk_alloc ?_ _)); refine blk_put (cs := #[u207000, .int .i64 t203, .int .i64 t205]) ?_ 0 _ rfl; (with_reducible repeat (first | refine blk_drewN ?_ _ | refine blk_drew ?_ | refine blk_alloc ?_ _)); exact BK206.out⟩, ⟨hb_⟩, ⟨by (with_reducible repeat (first | apply Kd.R_alloc | apply Kd.R_drewN | apply Kd.R_drew)); exact Kd.R_mono (Kd.R_far (p := ⟨gb206, 0, none⟩) (Kd.R_types HO200.out BK206.out (by decide)) (fun _ hk => hk.2) (.slice Ao42 y221.length co42)) (fun _ hk => trivial)⟩⟩
              ·rw [if_neg c34] at H
               exact absurd H (by simp)
             ·rw [if_neg c32] at H
              exact absurd H (by simp)
            ·rw [if_neg c30] at H
             exact absurd H (by simp)
           ·rw [if_neg c28] at H
            exact absurd H (by simp)
          ·rw [if_neg c27] at H
           have c27b0 : ((t212.length : Int) == 3) = false := beq_eq_false_iff_ne.mpr c27
           have c27b1 : ((t212.length : Int) != 3) = true := bne_iff_ne.mpr c27
           simp only [Option.some.injEq, Prod.mk.injEq] at H
           obtain ⟨rfl, rfl, rfl, rfl⟩ := H
           have p211 : 0 ≤ (x28_1 : Int) := of_decide_eq_true (by first | (with_reducible assumption) | assumption)
           have q211 : x28_1 < (y207.length : Int) := of_decide_eq_true (by first | (with_reducible assumption) | assumption)
           obtain ⟨ad211, e211, hx211_0⟩ := Kd.at_string HR210.out x28_1 p211 q211
           cases e211
           replace p211 := eq_true p211
           replace q211 := eq_true q211
           go_wp2_with (first | ((with_reducible refine gate_callee (f := 46) rfl ?_); refine goesL_ (some 33) rfl rfl Tryd.func46 (by kernel_rfl) rfl #[.string (rdOf ByteArray.empty y207 x28_1), .string (⟨#[58]⟩ : ByteArray)] rfl (ma2_ rfl rfl) ?_; (with_reducible refine (strings_Split.calls (rdOf ByteArray.empty y207 x28_1) (⟨#[58]⟩ : ByteArray) t212 _ ?sideL A26.out).mono ?_); (case sideL => refine lay_at HLAY.out ?_; repeat (first | (with_reducible first | exact HB.out | apply below_alloc | apply pw_below_drewN | apply below_drew1 | refine below_set ?_ GE197.out | refine below_set ?_ GE206.out) | exact HB.out)); rintro e w44 ⟨v213, rfl, ho0, hb⟩; refine ⟨_, rfl, ?_⟩; (try replace HO200 := ak_ (Kd.R_below (by (with_reducible repeat (first | apply Kd.R_alloc | apply Kd.R_drewN | apply Kd.R_drew)); exact HO200.out) hb)); replace HO_207000 := ak_ (Kd.R_below (by (with_reducible repeat (first | apply Kd.R_alloc | apply Kd.R_drewN | apply Kd.R_drew)); exact HO_207000.out) hb); have HO214 := ak_ (Kd.R_lower ho0 (below_size hb_)); replace BK197 := ak_ (blk_below (bk_ BK197) hb); replace BK206 := ak_ (blk_below (bk_ BK206) hb); replace HB := ak_ (below_step hb_ hb); (try clear hb); (try clear ho0); obtain ⟨Ao45, co45, eo45⟩ := Kd.R_slice HO214.out; subst eo45; have hnb46 := NB197_206.out; have hnc46 := NB206_197.out; obtain ⟨hcz47_0, hcz47_1, hcz47_2, hfz47_0, hfz47_1, hfz47_2⟩ := bc3_ BK197.out))
           refine bodyPost_ret (results_ct rfl _ _ gb197 35 #[.slice none 0 0, .int .i64 0, .int .i64 0] (0, 0) _ rfl (by (with_reducible repeat (first | refine blk_drewN ?_ _ | refine blk_drew ?_ | refine blk_alloc ?_ _)); refine blk_put (cs := #[.slice none 0 0, .int .i64 0, .int .i64 x198002_1]) ?_ 2 _ rfl; (with_reducible repeat (first | refine blk_drewN ?_ _ | refine blk_drew ?_ | refine blk_alloc ?_ _)); refine blk_put (cs := #[.slice none 0 0, .int .i64 x198001_1, .int .i64 x198002_1]) ?_ 1 _ rfl; (with_reducible repeat (first | refine blk_drewN ?_ _ | refine blk_drew ?_ | refine blk_alloc ?_ _)); refine blk_put (cs := #[.slice none 0 0, .int .i64 x198001_1, .int .i64 x198002_1]) ?_ 0 _ rfl; (with_reducible repeat (first | refine blk_drewN ?_ _ | refine blk_drew ?_ | refine blk_alloc ?_ _)); exact BK197.out) Tryd.underlying35 rfl (by kernel_rfl)) rfl ?_
           exact ⟨_, ew_, by first | exact Kd.R_nil _ _ _ _ _ | exact Kd.N_nil _ _ _ _ _ | exact Kd.V_nil _ _ _ _ _ | exact Kd.Q_nil _ _ _ _ _ | exact Kd.S_nil _ _ _ _ _, hb_⟩
         ·rw [if_neg c25] at H
          exact absurd H (by simp)
        ·rw [if_neg c24] at H
         exact absurd H (by simp)
       ·rw [if_neg c23] at H
        have c23b0 : decide (x28_1 < (y207.length : Int)) = false := decide_eq_false c23
        clear c23
        replace H := Option.bind_eq_some_iff.mp H
        obtain ⟨t224, A480, H⟩ := H
        replace H : (if t224 = true then ((impl_SideText.f k1 x207000_1 t203 t205).bind fun t225 => (if t225.toList = a0.toList then (some (x207000_1, t203, t205, true)) else (some (([] : List (S67)), 0, 0, false)))) else (some (([] : List (S67)), 0, 0, false))) = some (r1, r2, r3, r4) := H
        have A48 := Aside0.mk A480
        clear A480
        by_cases c49 : t224 = true
        ·subst c49
         rw [if_pos rfl] at H
         replace H := Option.bind_eq_some_iff.mp H
         obtain ⟨t225, A500, H⟩ := H
         replace H : (if t225.toList = a0.toList then (some (x207000_1, t203, t205, true)) else (some (([] : List (S67)), 0, 0, false))) = some (r1, r2, r3, r4) := H
         have A50 := Aside0.mk A500
         clear A500
         by_cases c51 : t225.toList = a0.toList
         ·rw [if_pos c51] at H
          have c51b0 : (t225.toList == a0.toList) = true := beq_iff_eq.mpr c51
          have c51b1 : (t225.toList != a0.toList) = false := bne_eq_false_iff_eq.mpr c51
          clear c51
          simp only [Option.some.injEq, Prod.mk.injEq] at H
          obtain ⟨rfl, rfl, rfl, rfl⟩ := H
          have hnb52 := NB206_197.out
          have hnc52 := NB197_206.out
          obtain ⟨hcz53_0, hcz53_1, hcz53_2, hfz53_0, hfz53_1, hfz53_2⟩ := bc3_ BK206.out
          obtain ⟨Ao54, co54, eo54⟩ := Kd.R_slice HO_207000.out
          subst eo54
          go_wp2_with (first | ((with_reducible refine gate_callee (f := 30) rfl ?_); refine goesL_ (some 58) rfl rfl Tryd.func30 (by kernel_rfl) rfl #[.agg #[.slice Ao54 x207000_1.length co54, .int .i64 t203, .int .i64 t205]] rfl (ma1_ rfl) ?_; (with_reducible refine (impl_SideOk.calls k1 _ _ x207000_1 t203 t205 true _ ?side1 ?side2 A48.out).mono ?_); (case side1 => repeat (first | exact (Kd.R_reads' HO_207000.out).2.2 | (with_reducible refine Kd.C_alloc ?_ _) | (with_reducible refine Kd.C_drewN ?_ _) | (with_reducible refine Kd.C_drew ?_))); (case side2 => exact (Kd.R_reads' HO_207000.out).2.1); rintro e w55 ⟨rfl, hb⟩; refine ⟨_, rfl, ?_⟩; (try replace HO200 := ak_ (Kd.R_below (by (with_reducible repeat (first | apply Kd.R_alloc | apply Kd.R_drewN | apply Kd.R_drew)); exact HO200.out) hb)); replace HO_207000 := ak_ (Kd.R_below (by (with_reducible repeat (first | apply Kd.R_alloc | apply Kd.R_drewN | apply Kd.R_drew)); exact HO_207000.out) hb); replace BK197 := ak_ (blk_below (bk_ BK197) hb); replace BK206 := ak_ (blk_below (bk_ BK206) hb); replace HB := ak_ (below_step hb_ hb); (try clear hb); obtain ⟨hcz56_0, hcz56_1, hcz56_2, hfz56_0, hfz56_1, hfz56_2⟩ := bc3_ BK206.out) | (go_at_call 13; (with_reducible refine (impl_SideText.calls k1 _ _ x207000_1 t203 t205 t225 _ ?side1 ?side2 ?sideL A50.out).mono ?_); (case sideL => refine lay_at HLAY.out ?_; repeat (first | (with_reducible first | exact HB.out | apply below_alloc | apply pw_below_drewN | apply below_drew1 | refine below_set ?_ GE197.out | refine below_set ?_ GE206.out) | exact HB.out)); (case side1 => repeat (first | exact (Kd.R_reads' HO_207000.out).2.2 | (with_reducible refine Kd.C_alloc ?_ _) | (with_reducible refine Kd.C_drewN ?_ _) | (with_reducible refine Kd.C_drew ?_))); (case side2 => exact (Kd.R_reads' HO_207000.out).2.1); rintro e w57 ⟨rfl, hb⟩; (try replace HO200 := ak_ (Kd.R_below (by (with_reducible repeat (first | apply Kd.R_alloc | apply Kd.R_drewN | apply Kd.R_drew)); exact HO200.out) hb)); replace HO_207000 := ak_ (Kd.R_below (by (with_reducible repeat (first | apply Kd.R_alloc | apply Kd.R_drewN | apply Kd.R_drew)); exact HO_207000.out) hb); replace BK197 := ak_ (blk_below (bk_ BK197) hb); replace BK206 := ak_ (blk_below (bk_ BK206) hb); replace HB := ak_ (below_step hb_ hb); (try clear hb); obtain ⟨hcz58_0, hcz58_1, hcz58_2, hfz58_0, hfz58_1, hfz58_2⟩ := bc3_ BK206.out; obtain ⟨hcz59_0, hcz59_1, hcz59_2, hfz59_0, hfz59_1, hfz59_2⟩ := bc3_ BK197.out))
          refine bodyPost_ret (results_ct rfl _ _ gb197 35 #[.slice Ao54 x207000_1.length co54, .int .i64 t203, .int .i64 t205] (0, 0) _ rfl (by (with_reducible repeat (first | refine blk_drewN ?_ _ | refine blk_drew ?_ | refine blk_alloc ?_ _)); refine blk_put (cs := #[.slice Ao54 x207000_1.length co54, .int .i64 t203, .int .i64 x198002_1]) ?_ 2 _ rfl; (with_reducible repeat (first | refine blk_drewN ?_ _ | refine blk_drew ?_ | refine blk_alloc ?_ _)); refine blk_put (cs := #[.slice Ao54 x207000_1.length co54, .int .i64 x198001_1, .int .i64 x198002_1]) ?_ 1 _ rfl; (with_reducible repeat (first | refine blk_drewN ?_ _ | refine blk_drew ?_ | refine blk_alloc ?_ _)); refine blk_put (cs := #[.slice none 0 0, .int .i64 x198001_1, .int .i64 x198002_1]) ?_ 0 _ rfl; (with_reducible repeat (first | refine blk_drewN ?_ _ | refine blk_drew ?_ | refine blk_alloc ?_ _)); exact BK197.out) Tryd.underlying35 rfl (by kernel_rfl)) rfl ?_
          exact ⟨_, ew_, by (with_reducible repeat (first | apply Kd.R_alloc | apply Kd.R_drewN | apply Kd.R_drew)); exact Kd.R_mono (Kd.R_far (p := ⟨gb197, 2, none⟩) (Kd.R_far (p := ⟨gb197, 1, none⟩) (Kd.R_far (p := ⟨gb197, 0, none⟩) (Kd.R_types HO_207000.out BK197.out (by decide)) (fun _ hk => hk.2) (.slice Ao54 x207000_1.length co54)) (fun _ hk => hk.2) (.int .i64 t203)) (fun _ hk => hk.2) (.int .i64 t205)) (fun _ hk => trivial), hb_⟩
         ·rw [if_neg c51] at H
          have c51b0 : (t225.toList == a0.toList) = false := beq_eq_false_iff_ne.mpr c51
          have c51b1 : (t225.toList != a0.toList) = true := bne_iff_ne.mpr c51
          simp only [Option.some.injEq, Prod.mk.injEq] at H
          obtain ⟨rfl, rfl, rfl, rfl⟩ := H
          have hnb60 := NB206_197.out
          have hnc60 := NB197_206.out
          obtain ⟨hcz61_0, hcz61_1, hcz61_2, hfz61_0, hfz61_1, hfz61_2⟩ := bc3_ BK206.out
          obtain ⟨Ao62, co62, eo62⟩ := Kd.R_slice HO_207000.out
          subst eo62
          go_wp2_with (first | ((with_reducible refine gate_callee (f := 30) rfl ?_); refine goesL_ (some 58) rfl rfl Tryd.func30 (by kernel_rfl) rfl #[.agg #[.slice Ao62 x207000_1.length co62, .int .i64 t203, .int .i64 t205]] rfl (ma1_ rfl) ?_; (with_reducible refine (impl_SideOk.calls k1 _ _ x207000_1 t203 t205 true _ ?side1 ?side2 A48.out).mono ?_); (case side1 => repeat (first | exact (Kd.R_reads' HO_207000.out).2.2 | (with_reducible refine Kd.C_alloc ?_ _) | (with_reducible refine Kd.C_drewN ?_ _) | (with_reducible refine Kd.C_drew ?_))); (case side2 => exact (Kd.R_reads' HO_207000.out).2.1); rintro e w63 ⟨rfl, hb⟩; refine ⟨_, rfl, ?_⟩; (try replace HO200 := ak_ (Kd.R_below (by (with_reducible repeat (first | apply Kd.R_alloc | apply Kd.R_drewN | apply Kd.R_drew)); exact HO200.out) hb)); replace HO_207000 := ak_ (Kd.R_below (by (with_reducible repeat (first | apply Kd.R_alloc | apply Kd.R_drewN | apply Kd.R_drew)); exact HO_207000.out) hb); replace BK197 := ak_ (blk_below (bk_ BK197) hb); replace BK206 := ak_ (blk_below (bk_ BK206) hb); replace HB := ak_ (below_step hb_ hb); (try clear hb); obtain ⟨hcz64_0, hcz64_1, hcz64_2, hfz64_0, hfz64_1, hfz64_2⟩ := bc3_ BK206.out) | (go_at_call 13; (with_reducible refine (impl_SideText.calls k1 _ _ x207000_1 t203 t205 t225 _ ?side1 ?side2 ?sideL A50.out).mono ?_); (case sideL => refine lay_at HLAY.out ?_; repeat (first | (with_reducible first | exact HB.out | apply below_alloc | apply pw_below_drewN | apply below_drew1 | refine below_set ?_ GE197.out | refine below_set ?_ GE206.out) | exact HB.out)); (case side1 => repeat (first | exact (Kd.R_reads' HO_207000.out).2.2 | (with_reducible refine Kd.C_alloc ?_ _) | (with_reducible refine Kd.C_drewN ?_ _) | (with_reducible refine Kd.C_drew ?_))); (case side2 => exact (Kd.R_reads' HO_207000.out).2.1); rintro e w65 ⟨rfl, hb⟩; (try replace HO200 := ak_ (Kd.R_below (by (with_reducible repeat (first | apply Kd.R_alloc | apply Kd.R_drewN | apply Kd.R_drew)); exact HO200.out) hb)); replace HO_207000 := ak_ (Kd.R_below (by (with_reducible repeat (first | apply Kd.R_alloc | apply Kd.R_drewN | apply Kd.R_drew)); exact HO_207000.out) hb); replace BK197 := ak_ (blk_below (bk_ BK197) hb); replace BK206 := ak_ (blk_below (bk_ BK206) hb); replace HB := ak_ (below_step hb_ hb); (try clear hb); obtain ⟨hcz66_0, hcz66_1, hcz66_2, hfz66_0, hfz66_1, hfz66_2⟩ := bc3_ BK197.out))
          refine bodyPost_ret (results_ct rfl _ _ gb197 35 #[.slice none 0 0, .int .i64 0, .int .i64 0] (0, 0) _ rfl (by (with_reducible repeat (first | refine blk_drewN ?_ _ | refine blk_drew ?_ | refine blk_alloc ?_ _)); refine blk_put (cs := #[.slice none 0 0, .int .i64 0, .int .i64 x198002_1]) ?_ 2 _ rfl; (with_reducible repeat (first | refine blk_drewN ?_ _ | refine blk_drew ?_ | refine blk_alloc ?_ _)); refine blk_put (cs := #[.slice none 0 0, .int .i64 x198001_1, .int .i64 x198002_1]) ?_ 1 _ rfl; (with_reducible repeat (first | refine blk_drewN ?_ _ | refine blk_drew ?_ | refine blk_alloc ?_ _)); refine blk_put (cs := #[.slice none 0 0, .int .i64 x198001_1, .int .i64 x198002_1]) ?_ 0 _ rfl; (with_reducible repeat (first | refine blk_drewN ?_ _ | refine blk_drew ?_ | refine blk_alloc ?_ _)); exact BK197.out) Tryd.underlying35 rfl (by kernel_rfl)) rfl ?_
          exact ⟨_, ew_, by first | exact Kd.R_nil _ _ _ _ _ | exact Kd.N_nil _ _ _ _ _ | exact Kd.V_nil _ _ _ _ _ | exact Kd.Q_nil _ _ _ _ _ | exact Kd.S_nil _ _ _ _ _, hb_⟩
        ·replace c49 := Bool.eq_false_iff.mpr c49
         subst c49
         rw [if_neg (show ¬ (false = true) by decide)] at H
         simp only [Option.some.injEq, Prod.mk.injEq] at H
         obtain ⟨rfl, rfl, rfl, rfl⟩ := H
         have hnb67 := NB206_197.out
         have hnc67 := NB197_206.out
         obtain ⟨hcz68_0, hcz68_1, hcz68_2, hfz68_0, hfz68_1, hfz68_2⟩ := bc3_ BK206.out
         obtain ⟨Ao69, co69, eo69⟩ := Kd.R_slice HO_207000.out
         subst eo69
         go_wp2_with (first | ((with_reducible refine gate_callee (f := 30) rfl ?_); refine goesL_ (some 58) rfl rfl Tryd.func30 (by kernel_rfl) rfl #[.agg #[.slice Ao69 x207000_1.length co69, .int .i64 t203, .int .i64 t205]] rfl (ma1_ rfl) ?_; (with_reducible refine (impl_SideOk.calls k1 _ _ x207000_1 t203 t205 false _ ?side1 ?side2 A48.out).mono ?_); (case side1 => repeat (first | exact (Kd.R_reads' HO_207000.out).2.2 | (with_reducible refine Kd.C_alloc ?_ _) | (with_reducible refine Kd.C_drewN ?_ _) | (with_reducible refine Kd.C_drew ?_))); (case side2 => exact (Kd.R_reads' HO_207000.out).2.1); rintro e w70 ⟨rfl, hb⟩; refine ⟨_, rfl, ?_⟩; (try replace HO200 := ak_ (Kd.R_below (by (with_reducible repeat (first | apply Kd.R_alloc | apply Kd.R_drewN | apply Kd.R_drew)); exact HO200.out) hb)); replace HO_207000 := ak_ (Kd.R_below (by (with_reducible repeat (first | apply Kd.R_alloc | apply Kd.R_drewN | apply Kd.R_drew)); exact HO_207000.out) hb); replace BK197 := ak_ (blk_below (bk_ BK197) hb); replace BK206 := ak_ (blk_below (bk_ BK206) hb); replace HB := ak_ (below_step hb_ hb); (try clear hb); obtain ⟨hcz71_0, hcz71_1, hcz71_2, hfz71_0, hfz71_1, hfz71_2⟩ := bc3_ BK197.out))
         refine bodyPost_ret (results_ct rfl _ _ gb197 35 #[.slice none 0 0, .int .i64 0, .int .i64 0] (0, 0) _ rfl (by (with_reducible repeat (first | refine blk_drewN ?_ _ | refine blk_drew ?_ | refine blk_alloc ?_ _)); refine blk_put (cs := #[.slice none 0 0, .int .i64 0, .int .i64 x198002_1]) ?_ 2 _ rfl; (with_reducible repeat (first | refine blk_drewN ?_ _ | refine blk_drew ?_ | refine blk_alloc ?_ _)); refine blk_put (cs := #[.slice none 0 0, .int .i64 x198001_1, .int .i64 x198002_1]) ?_ 1 _ rfl; (with_reducible repeat (first | refine blk_drewN ?_ _ | refine blk_drew ?_ | refine blk_alloc ?_ _)); refine blk_put (cs := #[.slice none 0 0, .int .i64 x198001_1, .int .i64 x198002_1]) ?_ 0 _ rfl; (with_reducible repeat (first | refine blk_drewN ?_ _ | refine blk_drew ?_ | refine blk_alloc ?_ _)); exact BK197.out) Tryd.underlying35 rfl (by kernel_rfl)) rfl ?_
         exact ⟨_, ew_, by first | exact Kd.R_nil _ _ _ _ _ | exact Kd.N_nil _ _ _ _ _ | exact Kd.V_nil _ _ _ _ _ | exact Kd.Q_nil _ _ _ _ _ | exact Kd.S_nil _ _ _ _ _, hb_⟩
    ·rw [if_neg c9] at H
     exact absurd H (by simp)
   ·rw [if_neg c7] at H
    exact absurd H (by simp)
  ·rw [if_neg c5] at H
   exact absurd H (by simp)
 ·replace c4 := Bool.eq_false_iff.mpr c4
  subst c4
  rw [if_neg (show ¬ (false = true) by decide)] at H
  simp only [Option.some.injEq, Prod.mk.injEq] at H
  obtain ⟨rfl, rfl, rfl, rfl⟩ := H
  go_enter Tryd.func21, Tryd.ntmps21
  go_wp2_with (first | ((with_reducible refine gate_dst (N := 2) rfl ?_); refine be_ (N := 2) (cs := #[.slice none 0 0, .int .i64 0, .int .i64 0]) (t := 35) ?_; intro gb197 hg w72 hbox hb; have BK197 := ak_ hbox; have GW197 := ak_ ((gs_ hg : w.heap.size ≤ gb197)); have GE197 := ak_ ((gs_ hg : w.heap.size ≤ gb197)); replace HB := ak_ (below_step hb_ hb); clear hb hbox hg) | ((with_reducible refine gate_callee (f := 46) rfl ?_); refine goesL_ (some 10) rfl rfl Tryd.func46 (by kernel_rfl) rfl #[.string a0, .string (⟨#[32]⟩ : ByteArray)] rfl (ma2_ rfl rfl) ?_; (with_reducible refine (strings_Split.calls a0 (⟨#[32]⟩ : ByteArray) t198 _ ?sideL A2.out).mono ?_); (case sideL => refine lay_at HLAY.out ?_; repeat (first | (with_reducible first | exact HB.out | apply below_alloc | apply pw_below_drewN | apply below_drew1 | refine below_set ?_ GE197.out) | exact HB.out)); rintro e w73 ⟨v199, rfl, ho0, hb⟩; refine ⟨_, rfl, ?_⟩; have HO200 := ak_ (Kd.R_lower ho0 (below_size hb_)); replace BK197 := ak_ (blk_below (bk_ BK197) hb); replace HB := ak_ (below_step hb_ hb); (try clear hb); (try clear ho0); obtain ⟨Ao74, co74, eo74⟩ := Kd.R_slice HO200.out; subst eo74) | ((with_reducible refine gate_callee (f := 47) rfl ?_); refine goesL_ (some 13) rfl rfl Tryd.func47 (by kernel_rfl) rfl #[.int .i64 (t198.length : Int), .int .i64 2, .int .i64 5] rfl (ma3_ rfl rfl rfl) ?_; (with_reducible refine (impl_in.calls (t198.length : Int) 2 5 false _ A3.out).mono ?_); rintro e w' ⟨rfl, ⟨nd, rfl⟩⟩; refine ⟨_, rfl, ?_⟩; (try (rw [drewN_self w73]; generalize hq_ : World.drewN w73 _ = w73; have n0_ : Aside0 (Kd.R Kd.string 9 w73 w.heap.size (fun _ => True) (.slice Ao74 t198.length co74) t198) := ⟨by rw [← hq_]; exact (by (with_reducible repeat (first | apply Kd.R_alloc | apply Kd.R_drewN | apply Kd.R_drew)); exact HO200.out)⟩; have n1_ : Aside0 (w73.heap[gb197]? = some (.cells #[.slice none 0 0, .int .i64 0, .int .i64 0] 35 (0, 0))) := ⟨by rw [← hq_]; exact (by (with_reducible repeat (first | refine blk_drewN ?_ _ | refine blk_drew ?_ | refine blk_alloc ?_ _)); exact BK197.out)⟩; have n2_ : Aside0 (Below w.heap.size w w73) := ⟨by rw [← hq_]; exact hb_⟩; clear HO200 BK197 HB hq_; have HO200 := n0_; have BK197 := n1_; have HB := n2_; clear n0_ n1_ n2_)); obtain ⟨hcz75_0, hcz75_1, hcz75_2, hfz75_0, hfz75_1, hfz75_2⟩ := bc3_ BK197.out))
  refine bodyPost_ret (results_ct rfl _ _ gb197 35 #[.slice none 0 0, .int .i64 0, .int .i64 0] (0, 0) _ rfl (by (with_reducible repeat (first | refine blk_drewN ?_ _ | refine blk_drew ?_ | refine blk_alloc ?_ _)); refine blk_put (cs := #[.slice none 0 0, .int .i64 0, .int .i64 0]) ?_ 2 _ rfl; (with_reducible repeat (first | refine blk_drewN ?_ _ | refine blk_drew ?_ | refine blk_alloc ?_ _)); refine blk_put (cs := #[.slice none 0 0, .int .i64 0, .int .i64 0]) ?_ 1 _ rfl; (with_reducible repeat (first | refine blk_drewN ?_ _ | refine blk_drew ?_ | refine blk_alloc ?_ _)); refine blk_put (cs := #[.slice none 0 0, .int .i64 0, .int .i64 0]) ?_ 0 _ rfl; (with_reducible repeat (first | refine blk_drewN ?_ _ | refine blk_drew ?_ | refine blk_alloc ?_ _)); exact BK197.out) Tryd.underlying35 rfl (by kernel_rfl)) rfl ?_
  exact ⟨_, ew_, by first | exact Kd.R_nil _ _ _ _ _ | exact Kd.N_nil _ _ _ _ _ | exact Kd.V_nil _ _ _ _ _ | exact Kd.Q_nil _ _ _ _ _ | exact Kd.S_nil _ _ _ _ _, hb_⟩

end Go.Proofs.YtblfoelddakelaaDoor.P
