-- PRINTED by print.py (a twelfth state) out of the translation. Not trusted: Lean checks it.
import Derived.Test.YtblfoelddakelaaDoorU0
import Derived.Test.YtblfoelddakelaaDoorU3
import Derived.Test.YtblfoelddakelaaDoorU10
import Derived.Test.YtblfoelddakelaaDoorU27
import Derived.Test.YtblfoelddakelaaDoorU29
namespace Go.Proofs.YtblfoelddakelaaDoor.U
open Go.RowKit Go.Proofs.YtblfoelddakelaaDoorW.PrintWords Go.Proofs.YtblfoelddakelaaDoorW.PrintLast Go.Proofs.YtblfoelddakelaaDoorW.PrintMore
attribute [local go_sem] max2_int min2_int max_two min_two max_three min_three max_four min_four   -- for this text's walks alone
set_option linter.unusedVariables false
set_option linter.unusedSimpArgs false

/-! ### impl_SetupText: function 18 -/
def impl_SetupText.l0 : Nat → ByteArray → List (S75) → Int → Int → Int → Int → Int → List (S75) → List (S67) → Int → Int → List (S67) → Int → Int → Int → Int → Option (ByteArray × Bool)
  | 0, _, _, _, _, _, _, _, _, _, _, _, _, _, _, _, _ => none
  | k + 1, x4, x26, x27, x28, x377000, x377001, x377002, x377003, x377004, x377005, x377006, x377007, x377008, x377009, x377010, x377011 => if x28 < x27 then (if 0 ≤ x28 then (if x28 < (x26.length : Int) then ((impl_GoalLine.f k ((rd_T75 x26 x28).f0) ((rd_T75 x26 x28).f1) ((rd_T75 x26 x28).f2)).bind fun t387 => (if 5 + t387.size ≤ 9223372036854775807 then (if ((⟨#[103, 111, 97, 108, 32]⟩ : ByteArray) ++ t387).size + 1 ≤ 9223372036854775807 then (if x4.size + (((⟨#[103, 111, 97, 108, 32]⟩ : ByteArray) ++ t387) ++ (⟨#[10]⟩ : ByteArray)).size ≤ 9223372036854775807 then (impl_SetupText.l0 k (x4 ++ (((⟨#[103, 111, 97, 108, 32]⟩ : ByteArray) ++ t387) ++ (⟨#[10]⟩ : ByteArray))) x26 x27 (wrap64 (x28 + 1)) x377000 x377001 x377002 x377003 x377004 x377005 x377006 x377007 x377008 x377009 x377010 x377011) else (none)) else (none)) else (none))) else (none)) else (none)) else ((impl_number.f x377010).bind fun t388 => ((impl_number.f x377011).bind fun t389 => ((impl_words.f (([(⟨#[99, 111, 117, 110, 116]⟩ : ByteArray), t388, t389] : List ByteArray))).bind fun t393 => (if t393.size + 1 ≤ 9223372036854775807 then (if x4.size + (t393 ++ (⟨#[10]⟩ : ByteArray)).size ≤ 9223372036854775807 then (if (x4 ++ (t393 ++ (⟨#[10]⟩ : ByteArray))).size + 3 ≤ 9223372036854775807 then ((impl_SideText.f k x377004 x377005 x377006).bind fun t394 => (if ((x4 ++ (t393 ++ (⟨#[10]⟩ : ByteArray))) ++ (⟨#[117, 112, 32]⟩ : ByteArray)).size + t394.size ≤ 9223372036854775807 then (if (((x4 ++ (t393 ++ (⟨#[10]⟩ : ByteArray))) ++ (⟨#[117, 112, 32]⟩ : ByteArray)) ++ t394).size + 6 ≤ 9223372036854775807 then ((impl_SideText.f k x377007 x377008 x377009).bind fun t395 => (if ((((x4 ++ (t393 ++ (⟨#[10]⟩ : ByteArray))) ++ (⟨#[117, 112, 32]⟩ : ByteArray)) ++ t394) ++ (⟨#[10, 100, 111, 119, 110, 32]⟩ : ByteArray)).size + t395.size ≤ 9223372036854775807 then (if (((((x4 ++ (t393 ++ (⟨#[10]⟩ : ByteArray))) ++ (⟨#[117, 112, 32]⟩ : ByteArray)) ++ t394) ++ (⟨#[10, 100, 111, 119, 110, 32]⟩ : ByteArray)) ++ t395).size + 1 ≤ 9223372036854775807 then (some ((((((x4 ++ (t393 ++ (⟨#[10]⟩ : ByteArray))) ++ (⟨#[117, 112, 32]⟩ : ByteArray)) ++ t394) ++ (⟨#[10, 100, 111, 119, 110, 32]⟩ : ByteArray)) ++ t395) ++ (⟨#[10]⟩ : ByteArray), true)) else (none)) else (none))) else (none)) else (none))) else (none)) else (none)) else (none)))))
def impl_SetupText.f (k : Nat) (a0_0 : Int) (a0_1 : Int) (a0_2 : Int) (l0_3 : List (S75)) (l0_4 : List (S67)) (a0_5 : Int) (a0_6 : Int) (l0_7 : List (S67)) (a0_8 : Int) (a0_9 : Int) (a0_10 : Int) (a0_11 : Int) : Option (ByteArray × Bool) := (impl_SetupOk.f k a0_0 a0_1 a0_2 l0_3 l0_4 a0_5 a0_6 l0_7 a0_8 a0_9 a0_10 a0_11).bind fun t377 => (if t377 = true then ((impl_number.f a0_0).bind fun t378 => ((impl_number.f a0_1).bind fun t379 => ((impl_number.f a0_2).bind fun t380 => ((impl_words.f (([(⟨#[114, 117, 108, 101, 115]⟩ : ByteArray), t378, t379, t380] : List ByteArray))).bind fun t384 => (if t384.size + 1 ≤ 9223372036854775807 then (impl_SetupText.l0 k (t384 ++ (⟨#[10]⟩ : ByteArray)) l0_3 (l0_3.length : Int) 0 a0_0 a0_1 a0_2 l0_3 l0_4 a0_5 a0_6 l0_7 a0_8 a0_9 a0_10 a0_11) else (none)))))) else (some ((⟨#[]⟩ : ByteArray), false)))
theorem impl_SetupText.mono_l : ∀ k, (∀ y0 y1 y2 y3 y4 y5 y6 y7 y8 y9 y10 y11 y12 y13 y14 y15, LeO (impl_SetupText.l0 k y0 y1 y2 y3 y4 y5 y6 y7 y8 y9 y10 y11 y12 y13 y14 y15) (impl_SetupText.l0 (k + 1) y0 y1 y2 y3 y4 y5 y6 y7 y8 y9 y10 y11 y12 y13 y14 y15))
  | 0 => fun _ _ _ _ _ _ _ _ _ _ _ _ _ _ _ _ r h => by simp [impl_SetupText.l0] at h
  | k + 1 => by
    have ih0 := impl_SetupText.mono_l k
    · intro y0 y1 y2 y3 y4 y5 y6 y7 y8 y9 y10 y11 y12 y13 y14 y15
      unfold impl_SetupText.l0
      repeat' with_reducible first | exact ih0 _ _ _ _ _ _ _ _ _ _ _ _ _ _ _ _ | exact impl_GoalLine.mono _ _ _ _ | exact impl_SetupOk.mono _ _ _ _ _ _ _ _ _ _ _ _ _ | exact impl_SideText.mono _ _ _ _ | exact LeO.refl _ | exact LeO.none _ | refine LeO.ite ?_ ?_ | refine LeO.bind ?_ (fun _ => ?_)
theorem impl_SetupText.mono : ∀ a0 a1 a2 a3 a4 a5 a6 a7 a8 a9 a10 a11 k, LeO (impl_SetupText.f k a0 a1 a2 a3 a4 a5 a6 a7 a8 a9 a10 a11) (impl_SetupText.f (k + 1) a0 a1 a2 a3 a4 a5 a6 a7 a8 a9 a10 a11) := by
  intro a0 a1 a2 a3 a4 a5 a6 a7 a8 a9 a10 a11 k
  have ih0 := impl_SetupText.mono_l k
  unfold impl_SetupText.f
  repeat' with_reducible first | exact ih0 _ _ _ _ _ _ _ _ _ _ _ _ _ _ _ _ | exact impl_GoalLine.mono _ _ _ _ | exact impl_SetupOk.mono _ _ _ _ _ _ _ _ _ _ _ _ _ | exact impl_SideText.mono _ _ _ _ | exact LeO.refl _ | exact LeO.none _ | refine LeO.ite ?_ ?_ | refine LeO.bind ?_ (fun _ => ?_)
def impl_SetupText.T3 : Bool × List (List Nat × List Nat) := (true, [([], []), ([0], [0]), ([1], [1]), ([2], [2]), ([], []), ([4], [4]), ([5], [5]), ([6, 3], [6]), ([], []), ([8], [8]), ([9], [9]), ([10, 7], [10]), ([3, 7, 11], [3, 7, 11]), ([12, 11], [12]), ([13], [13]), ([14, 13, 0, 1, 2, 3, 4, 5, 6, 7, 8, 9, 10, 11, 12, 13, 14], [14])])
def impl_SetupText.B3 : List Nat := [0, 1, 3, 7, 0, 16, 48, 127, 0, 256, 768, 2047, 4095, 8191, 16383, 32767]
theorem impl_SetupText.tab3 : rtab .any (opsOf Tryd.f18 3) = impl_SetupText.T3 := by kernel_rfl
theorem impl_SetupText.bits3 : waitsOk impl_SetupText.T3.2 impl_SetupText.B3 = true := by kernel_rfl
def impl_SetupText.T9 : Bool × List (List Nat × List Nat) := (true, [([], []), ([], []), ([1], [1]), ([2], [2]), ([3], [3]), ([], []), ([5], [5]), ([6], [6]), ([7, 4], [7]), ([4, 8], [4, 8]), ([9, 8], [9]), ([10], [10]), ([0, 11], [0, 11]), ([12, 10, 0, 1, 2, 3, 4, 5, 6, 7, 8, 9, 10, 11, 12], [0, 12])])
def impl_SetupText.B9 : List Nat := [0, 0, 2, 6, 14, 0, 32, 96, 254, 510, 1022, 2046, 4095, 8191]
theorem impl_SetupText.tab9 : rtab .any (opsOf Tryd.f18 9) = impl_SetupText.T9 := by kernel_rfl
theorem impl_SetupText.bits9 : waitsOk impl_SetupText.T9.2 impl_SetupText.B9 = true := by kernel_rfl
def impl_SetupText.T10 : Bool × List (List Nat × List Nat) := (true, [([], []), ([0], [0]), ([], []), ([2], [2]), ([3], [3]), ([4], [4]), ([1, 5], [1, 5]), ([6], [6]), ([], []), ([8], [8]), ([9], [9]), ([10, 5], [10]), ([7, 11], [7, 11]), ([12], [12]), ([13, 11, 0, 1, 2, 3, 4, 5, 6, 7, 8, 9, 10, 11, 12, 13], [13]), ([14, 0, 1, 2, 3, 4, 5, 6, 7, 8, 9, 10, 11, 12, 13, 14], [])])
def impl_SetupText.B10 : List Nat := [0, 1, 0, 4, 12, 28, 63, 127, 0, 256, 768, 1852, 4095, 8191, 16383, 32767]
theorem impl_SetupText.tab10 : rtab .any (opsOf Tryd.f18 10) = impl_SetupText.T10 := by kernel_rfl
theorem impl_SetupText.bits10 : waitsOk impl_SetupText.T10.2 impl_SetupText.B10 = true := by kernel_rfl
abbrev impl_SetupText.d0 : Array Bool := #[false, false, false, false, false, false, false, false, false, false, false, false, false, false, false, false]
abbrev impl_SetupText.d1 : Array Bool := #[true, false, false, false, false, false, false, false, false, false, false, false, false, false, false, false]
abbrev impl_SetupText.d2 : Array Bool := #[true, true, false, false, false, false, false, false, false, false, false, false, false, false, false, false]
abbrev impl_SetupText.d3 : Array Bool := #[true, true, true, true, true, true, true, false, true, true, true, false, false, false, false, false]
abbrev impl_SetupText.d4 : Array Bool := #[true, true, true, true, true, true, true, true, true, true, true, false, false, false, false, false]
abbrev impl_SetupText.d5 : Array Bool := #[true, true, true, true, true, true, true, true, true, true, true, true, false, false, false, false]
abbrev impl_SetupText.d6 : Array Bool := #[true, true, true, true, true, true, true, true, true, true, true, true, true, false, false, false]
abbrev impl_SetupText.d7 : Array Bool := #[true, true, true, true, true, true, true, true, true, true, true, true, true, true, false, false]
abbrev impl_SetupText.d8 : Array Bool := #[true, true, true, true, true, true, true, true, true, true, true, true, true, true, true, false]
abbrev impl_SetupText.d9 : Array Bool := #[true, true, true, true, true, true, true, true, true, true, true, true, true, true, true, true]
set_option maxHeartbeats 8000000 in
set_option maxRecDepth 100000 in
theorem impl_SetupText.calls (k : Nat) (a0_0 : Int) (a0_1 : Int) (a0_2 : Int) (A0_3 : Option Addr) (c0_3 : Nat) (l0_3 : List (S75)) (A0_4 : Option Addr) (c0_4 : Nat) (l0_4 : List (S67)) (a0_5 : Int) (a0_6 : Int) (A0_7 : Option Addr) (c0_7 : Nat) (l0_7 : List (S67)) (a0_8 : Int) (a0_9 : Int) (a0_10 : Int) (a0_11 : Int) (r1 : ByteArray) (r2 : Bool) (w : World) (hr0_3 : Kd.C k75 w A0_3 l0_3.length l0_3) (hc0_3 : l0_3.length ≤ c0_3) (hr0_4 : Kd.C k67 w A0_4 l0_4.length l0_4) (hc0_4 : l0_4.length ≤ c0_4) (hr0_7 : Kd.C k67 w A0_7 l0_7.length l0_7) (hc0_7 : l0_7.length ≤ c0_7) (hL : Lay w) (h : impl_SetupText.f k a0_0 a0_1 a0_2 l0_3 l0_4 a0_5 a0_6 l0_7 a0_8 a0_9 a0_10 a0_11 = some (r1, r2)) :
  Calls Tryd.prog 18 #[.agg #[.int .i64 a0_0, .int .i64 a0_1, .int .i64 a0_2, .slice A0_3 l0_3.length c0_3, .slice A0_4 l0_4.length c0_4, .int .i64 a0_5, .int .i64 a0_6, .slice A0_7 l0_7.length c0_7, .int .i64 a0_8, .int .i64 a0_9, .int .i64 a0_10, .int .i64 a0_11]] w fun e w' => e = .returned (.tuple #[.string r1, .bool r2]) ∧ Below w.heap.size w w' := by
 have HLAY := Aside0.mk hL
 clear hL
 have hu54 := Tryd.underlying54
 have hu75 := Tryd.underlying75
 have hu35 := Tryd.underlying35
 have HR0_3 := Aside0.mk hr0_3
 have HC0_3 := Aside0.mk hc0_3
 clear hr0_3 hc0_3
 have HR0_4 := Aside0.mk hr0_4
 have HC0_4 := Aside0.mk hc0_4
 clear hr0_4 hc0_4
 have HR0_7 := Aside0.mk hr0_7
 have HC0_7 := Aside0.mk hc0_7
 clear hr0_7 hc0_7
 have HB := Aside0.mk (Below.refl w.heap.size w)
 have H : ((impl_SetupOk.f k a0_0 a0_1 a0_2 l0_3 l0_4 a0_5 a0_6 l0_7 a0_8 a0_9 a0_10 a0_11).bind fun t377 => (if t377 = true then ((impl_number.f a0_0).bind fun t378 => ((impl_number.f a0_1).bind fun t379 => ((impl_number.f a0_2).bind fun t380 => ((impl_words.f (([(⟨#[114, 117, 108, 101, 115]⟩ : ByteArray), t378, t379, t380] : List ByteArray))).bind fun t384 => (if t384.size + 1 ≤ 9223372036854775807 then (impl_SetupText.l0 k (t384 ++ (⟨#[10]⟩ : ByteArray)) l0_3 (l0_3.length : Int) 0 a0_0 a0_1 a0_2 l0_3 l0_4 a0_5 a0_6 l0_7 a0_8 a0_9 a0_10 a0_11) else (none)))))) else (some ((⟨#[]⟩ : ByteArray), false)))) = some (r1, r2) := h
 clear h
 replace H := Option.bind_eq_some_iff.mp H
 obtain ⟨t377, A20, H⟩ := H
 replace H : (if t377 = true then ((impl_number.f a0_0).bind fun t378 => ((impl_number.f a0_1).bind fun t379 => ((impl_number.f a0_2).bind fun t380 => ((impl_words.f (([(⟨#[114, 117, 108, 101, 115]⟩ : ByteArray), t378, t379, t380] : List ByteArray))).bind fun t384 => (if t384.size + 1 ≤ 9223372036854775807 then (impl_SetupText.l0 k (t384 ++ (⟨#[10]⟩ : ByteArray)) l0_3 (l0_3.length : Int) 0 a0_0 a0_1 a0_2 l0_3 l0_4 a0_5 a0_6 l0_7 a0_8 a0_9 a0_10 a0_11) else (none)))))) else (some ((⟨#[]⟩ : ByteArray), false))) = some (r1, r2) := H
 have A2 := Aside0.mk A20
 clear A20
 by_cases c3 : t377 = true
 ·subst c3
  rw [if_pos rfl] at H
  replace H := Option.bind_eq_some_iff.mp H
  obtain ⟨t378, A40, H⟩ := H
  replace H : ((impl_number.f a0_1).bind fun t379 => ((impl_number.f a0_2).bind fun t380 => ((impl_words.f (([(⟨#[114, 117, 108, 101, 115]⟩ : ByteArray), t378, t379, t380] : List ByteArray))).bind fun t384 => (if t384.size + 1 ≤ 9223372036854775807 then (impl_SetupText.l0 k (t384 ++ (⟨#[10]⟩ : ByteArray)) l0_3 (l0_3.length : Int) 0 a0_0 a0_1 a0_2 l0_3 l0_4 a0_5 a0_6 l0_7 a0_8 a0_9 a0_10 a0_11) else (none))))) = some (r1, r2) := H
  have A4 := Aside0.mk A40
  clear A40
  replace H := Option.bind_eq_some_iff.mp H
  obtain ⟨t379, A50, H⟩ := H
  replace H : ((impl_number.f a0_2).bind fun t380 => ((impl_words.f (([(⟨#[114, 117, 108, 101, 115]⟩ : ByteArray), t378, t379, t380] : List ByteArray))).bind fun t384 => (if t384.size + 1 ≤ 9223372036854775807 then (impl_SetupText.l0 k (t384 ++ (⟨#[10]⟩ : ByteArray)) l0_3 (l0_3.length : Int) 0 a0_0 a0_1 a0_2 l0_3 l0_4 a0_5 a0_6 l0_7 a0_8 a0_9 a0_10 a0_11) else (none)))) = some (r1, r2) := H
  have A5 := Aside0.mk A50
  clear A50
  replace H := Option.bind_eq_some_iff.mp H
  obtain ⟨t380, A60, H⟩ := H
  replace H : ((impl_words.f (([(⟨#[114, 117, 108, 101, 115]⟩ : ByteArray), t378, t379, t380] : List ByteArray))).bind fun t384 => (if t384.size + 1 ≤ 9223372036854775807 then (impl_SetupText.l0 k (t384 ++ (⟨#[10]⟩ : ByteArray)) l0_3 (l0_3.length : Int) 0 a0_0 a0_1 a0_2 l0_3 l0_4 a0_5 a0_6 l0_7 a0_8 a0_9 a0_10 a0_11) else (none))) = some (r1, r2) := H
  have A6 := Aside0.mk A60
  clear A60
  obtain ⟨y381, hy381⟩ : ∃ y_ : List ByteArray, y_ = (([(⟨#[114, 117, 108, 101, 115]⟩ : ByteArray), t378, t379, t380] : List ByteArray)) := ⟨_, rfl⟩
  replace H : ((impl_words.f y381).bind fun t384 => (if t384.size + 1 ≤ 9223372036854775807 then (impl_SetupText.l0 k (t384 ++ (⟨#[10]⟩ : ByteArray)) l0_3 (l0_3.length : Int) 0 a0_0 a0_1 a0_2 l0_3 l0_4 a0_5 a0_6 l0_7 a0_8 a0_9 a0_10 a0_11) else (none))) = some (r1, r2) := by first | (rw [hy381]; with_reducible exact H) | (have H2_ := (Option.bind_some _ _).symm.trans H; rw [hy381]; with_reducible exact H2_) | (have H2_ := (Option.bind_some _ _).symm.trans H; with_reducible exact H2_) | with_reducible exact H | (rw [hy381]; exact H) | exact H
  have Ny381 := Aside0.mk hy381
  clear hy381
  replace H := Option.bind_eq_some_iff.mp H
  obtain ⟨t384, A70, H⟩ := H
  replace H : (if t384.size + 1 ≤ 9223372036854775807 then (impl_SetupText.l0 k (t384 ++ (⟨#[10]⟩ : ByteArray)) l0_3 (l0_3.length : Int) 0 a0_0 a0_1 a0_2 l0_3 l0_4 a0_5 a0_6 l0_7 a0_8 a0_9 a0_10 a0_11) else (none)) = some (r1, r2) := H
  have A7 := Aside0.mk A70
  clear A70
  by_cases c8 : t384.size + 1 ≤ 9223372036854775807
  ·rw [if_pos c8] at H
   have c8b0 := eq_true c8
   have c8b1 : decide (t384.size + 1 ≤ 9223372036854775807) = true := decide_eq_true c8
   try have c8b2 : (9223372036854775807 < t384.size + 1) = False := eq_false (Nat.not_lt.2 c8)
   have H' := Aside0.mk H
   clear H
   go_enter Tryd.func18, Tryd.ntmps18
   try go_wp2_with (first | ((with_reducible refine gate_dst (N := 1) rfl ?_); refine be_ (N := 1) (cs := #[.int .i64 a0_0, .int .i64 a0_1, .int .i64 a0_2, .slice A0_3 l0_3.length c0_3, .slice A0_4 l0_4.length c0_4, .int .i64 a0_5, .int .i64 a0_6, .slice A0_7 l0_7.length c0_7, .int .i64 a0_8, .int .i64 a0_9, .int .i64 a0_10, .int .i64 a0_11]) (t := 54) ?_; intro gb376 hg w9 hbox hb; have BK376 := ak_ hbox; have GW376 := ak_ ((gs_ hg : w.heap.size ≤ gb376)); have GE376 := ak_ ((gs_ hg : w.heap.size ≤ gb376)); replace HB := ak_ (below_step hb_ hb); clear hb hbox hg; obtain ⟨hcz10_0, hcz10_1, hcz10_2, hcz10_3, hcz10_4, hcz10_5, hcz10_6, hcz10_7, hcz10_8, hcz10_9, hcz10_10, hcz10_11, hfz10_0, hfz10_1, hfz10_2, hfz10_3, hfz10_4, hfz10_5, hfz10_6, hfz10_7, hfz10_8, hfz10_9, hfz10_10, hfz10_11⟩ := bc12_ BK376.out) | ((with_reducible refine gate_callee (f := 39) rfl ?_); refine goesL_ (some 8) rfl rfl Tryd.func39 (by kernel_rfl) rfl #[.agg #[.int .i64 a0_0, .int .i64 a0_1, .int .i64 a0_2, .slice A0_3 l0_3.length c0_3, .slice A0_4 l0_4.length c0_4, .int .i64 a0_5, .int .i64 a0_6, .slice A0_7 l0_7.length c0_7, .int .i64 a0_8, .int .i64 a0_9, .int .i64 a0_10, .int .i64 a0_11]] rfl (ma1_ rfl) ?_; (with_reducible refine (impl_SetupOk.calls k a0_0 a0_1 a0_2 _ _ l0_3 _ _ l0_4 a0_5 a0_6 _ _ l0_7 a0_8 a0_9 a0_10 a0_11 true _ ?side1 ?side2 ?side3 ?side4 ?side5 ?side6 A2.out).mono ?_); (case side1 => exact kc_ HR0_3); (case side2 => exact HC0_3.out); (case side3 => exact kc_ HR0_4); (case side4 => exact HC0_4.out); (case side5 => exact kc_ HR0_7); (case side6 => exact HC0_7.out); rintro e w11 ⟨rfl, hb⟩; refine ⟨_, rfl, ?_⟩; replace BK376 := ak_ (blk_below (bk_ BK376) hb); replace HB := ak_ (below_step hb_ hb); (try clear hb)))
   replace BK376 := ak_ (blk_drew BK376.out)
   replace HB := ak_ (below_drew1 HB.out)
   refine start_ (n := 16) (S := fun w' => w'.cell? ⟨gb376, 0, none⟩ = some (.int .i64 a0_0) ∧ w'.cell? ⟨gb376, 1, none⟩ = some (.int .i64 a0_1) ∧ w'.cell? ⟨gb376, 2, none⟩ = some (.int .i64 a0_2) ∧ w'.cell? ⟨gb376, 3, none⟩ = some (.slice A0_3 l0_3.length c0_3) ∧ w'.cell? ⟨gb376, 4, none⟩ = some (.slice A0_4 l0_4.length c0_4) ∧ w'.cell? ⟨gb376, 5, none⟩ = some (.int .i64 a0_5) ∧ w'.cell? ⟨gb376, 6, none⟩ = some (.int .i64 a0_6) ∧ w'.cell? ⟨gb376, 7, none⟩ = some (.slice A0_7 l0_7.length c0_7) ∧ w'.cell? ⟨gb376, 8, none⟩ = some (.int .i64 a0_8) ∧ w'.cell? ⟨gb376, 9, none⟩ = some (.int .i64 a0_9) ∧ w'.cell? ⟨gb376, 10, none⟩ = some (.int .i64 a0_10) ∧ w'.cell? ⟨gb376, 11, none⟩ = some (.int .i64 a0_11)) (ds := []) impl_SetupText.d0 (by kernel_rfl) rfl rfl ⟨(blk_cell BK376.out 0).trans rfl, (blk_cell BK376.out 1).trans rfl, (blk_cell BK376.out 2).trans rfl, (blk_cell BK376.out 3).trans rfl, (blk_cell BK376.out 4).trans rfl, (blk_cell BK376.out 5).trans rfl, (blk_cell BK376.out 6).trans rfl, (blk_cell BK376.out 7).trans rfl, (blk_cell BK376.out 8).trans rfl, (blk_cell BK376.out 9).trans rfl, (blk_cell BK376.out 10).trans rfl, (blk_cell BK376.out 11).trans rfl⟩ (fun hHeld => ?_); refine with_tabW impl_SetupText.tab3 impl_SetupText.bits3 (fun HT_ HW_ => ?_)
   generalize w11.drew = w12 at BK376 HB hHeld ⊢
   refine pure_ (i := 0) (N := some 10) (v := ?_) (a' := ?_) impl_SetupText.d1 rfl rfl (any_of HT_.out (by kernel_rfl)) (fun _ _ _ h => h) (Or.inl ⟨by rfl, ?_⟩) ?_ ?_; rotate_left; (intro w'; go_simp; with_reducible rfl); rotate_left; (simp only [Act.put, List.setIfInBounds_toArray, List.set_cons_zero, List.set_cons_succ, i64_w, i32_w]; rfl)
   refine pure_ (i := 1) (N := some 11) (v := ?_) (a' := ?_) impl_SetupText.d2 rfl rfl (any_of HT_.out (by kernel_rfl)) (fun _ _ _ h => h) (Or.inl ⟨by rfl, ?_⟩) ?_ ?_; rotate_left; (intro w'; go_simp; with_reducible rfl); rotate_left; (simp only [Act.put, List.setIfInBounds_toArray, List.set_cons_zero, List.set_cons_succ, i64_w, i32_w]; rfl)
   refine pure_ (i := 4) (N := some 14) (v := ?_) (a' := ?_) #[true, true, false, false, true, false, false, false, false, false, false, false, false, false, false, false] rfl rfl (any_of HT_.out (by kernel_rfl)) (fun _ _ _ h => h) (Or.inl ⟨by rfl, ?_⟩) ?_ ?_; rotate_left; (intro w'; go_simp; with_reducible rfl); rotate_left; (simp only [Act.put, List.setIfInBounds_toArray, List.set_cons_zero, List.set_cons_succ, i64_w, i32_w]; rfl)
   refine pure_ (i := 5) (N := some 15) (v := ?_) (a' := ?_) #[true, true, false, false, true, true, false, false, false, false, false, false, false, false, false, false] rfl rfl (any_of HT_.out (by kernel_rfl)) (fun _ _ _ h => h) (Or.inl ⟨by rfl, ?_⟩) ?_ ?_; rotate_left; (intro w'; go_simp; with_reducible rfl); rotate_left; (simp only [Act.put, List.setIfInBounds_toArray, List.set_cons_zero, List.set_cons_succ, i64_w, i32_w]; rfl)
   refine pure_ (i := 8) (N := some 18) (v := ?_) (a' := ?_) #[true, true, false, false, true, true, false, false, true, false, false, false, false, false, false, false] rfl rfl (any_of HT_.out (by kernel_rfl)) (fun _ _ _ h => h) (Or.inl ⟨by rfl, ?_⟩) ?_ ?_; rotate_left; (intro w'; go_simp; with_reducible rfl); rotate_left; (simp only [Act.put, List.setIfInBounds_toArray, List.set_cons_zero, List.set_cons_succ, i64_w, i32_w]; rfl)
   refine pure_ (i := 9) (N := some 19) (v := ?_) (a' := ?_) #[true, true, false, false, true, true, false, false, true, true, false, false, false, false, false, false] rfl rfl (any_of HT_.out (by kernel_rfl)) (fun _ _ _ h => h) (Or.inl ⟨by rfl, ?_⟩) ?_ ?_; rotate_left; (intro w'; go_simp; with_reducible rfl); rotate_left; (simp only [Act.put, List.setIfInBounds_toArray, List.set_cons_zero, List.set_cons_succ, i64_w, i32_w]; rfl)
   refine take_ (i := 2) (N := some 12) (v := ?_) (a' := ?_) #[true, true, true, false, true, true, false, false, true, true, false, false, false, false, false, false] rfl rfl (take_ofW HT_.out HW_.out (by kernel_rfl)) (fun _ _ _ h => h) (Or.inl ⟨by rfl, ?_⟩) hHeld ?_ ?_; rotate_left; (rintro w' ⟨s0, s1, s2, s3, s4, s5, s6, s7, s8, s9, s10, s11⟩; go_simp; with_reducible rfl); rotate_left; (simp only [Act.put, List.setIfInBounds_toArray, List.set_cons_zero, List.set_cons_succ, i64_w, i32_w]; rfl)
   refine take_ (i := 6) (N := some 16) (v := ?_) (a' := ?_) #[true, true, true, false, true, true, true, false, true, true, false, false, false, false, false, false] rfl rfl (take_ofW HT_.out HW_.out (by kernel_rfl)) (fun _ _ _ h => h) (Or.inl ⟨by rfl, ?_⟩) hHeld ?_ ?_; rotate_left; (rintro w' ⟨s0, s1, s2, s3, s4, s5, s6, s7, s8, s9, s10, s11⟩; go_simp; with_reducible rfl); rotate_left; (simp only [Act.put, List.setIfInBounds_toArray, List.set_cons_zero, List.set_cons_succ, i64_w, i32_w]; rfl)
   refine take_ (i := 10) (N := some 20) (v := ?_) (a' := ?_) #[true, true, true, false, true, true, true, false, true, true, true, false, false, false, false, false] rfl rfl (take_ofW HT_.out HW_.out (by kernel_rfl)) (fun _ _ _ h => h) (Or.inl ⟨by rfl, ?_⟩) hHeld ?_ ?_; rotate_left; (rintro w' ⟨s0, s1, s2, s3, s4, s5, s6, s7, s8, s9, s10, s11⟩; go_simp; with_reducible rfl); rotate_left; (simp only [Act.put, List.setIfInBounds_toArray, List.set_cons_zero, List.set_cons_succ, i64_w, i32_w]; rfl)
   refine one_ (i := 3) (N := some 13) impl_SetupText.d3 rfl rfl (one_of HT_.out (by kernel_rfl)) (by decide) (fun K hK => ?_)
   refine goes_ Tryd.func25 (by kernel_rfl) rfl #[.int .i64 a0_0] (by rfl) rfl rfl (ma1_ rfl) ?_
   with_reducible refine (impl_number.calls a0_0 t378 _ ?sideL A4.out).mono ?_
   (case sideL => refine lay_at HLAY.out ?_; repeat (first | (with_reducible first | exact HB.out | apply below_alloc | apply pw_below_drewN | apply below_drew1 | refine below_set ?_ GE376.out) | exact HB.out))
   rintro e w13 ⟨rfl, hb⟩
   refine ⟨_, rfl, ?_⟩
   replace BK376 := ak_ (blk_below (bk_ BK376) hb)
   replace HB := ak_ (below_step hb_ hb)
   (try clear hb)
   (try clear hb2)
   (try clear hk)
   (try clear hi)
   refine hK.out _ _ ⟨(blk_cell BK376.out 0).trans rfl, (blk_cell BK376.out 1).trans rfl, (blk_cell BK376.out 2).trans rfl, (blk_cell BK376.out 3).trans rfl, (blk_cell BK376.out 4).trans rfl, (blk_cell BK376.out 5).trans rfl, (blk_cell BK376.out 6).trans rfl, (blk_cell BK376.out 7).trans rfl, (blk_cell BK376.out 8).trans rfl, (blk_cell BK376.out 9).trans rfl, (blk_cell BK376.out 10).trans rfl, (blk_cell BK376.out 11).trans rfl⟩ (fun hHeld => ?_)
   clear hK K
   refine norm_ (a' := ?_) ?_ ?_
   rotate_left
   ·show Act.put _ (some 13) _ = _
    simp only [Act.put, List.setIfInBounds_toArray, List.set_cons_zero, List.set_cons_succ, i64_w, i32_w]
    rfl
   refine one_ (i := 7) (N := some 17) impl_SetupText.d4 rfl rfl (one_of HT_.out (by kernel_rfl)) (by decide) (fun K hK => ?_)
   refine goes_ Tryd.func25 (by kernel_rfl) rfl #[.int .i64 a0_1] (by rfl) rfl rfl (ma1_ rfl) ?_
   with_reducible refine (impl_number.calls a0_1 t379 _ ?sideL A5.out).mono ?_
   (case sideL => refine lay_at HLAY.out ?_; repeat (first | (with_reducible first | exact HB.out | apply below_alloc | apply pw_below_drewN | apply below_drew1 | refine below_set ?_ GE376.out) | exact HB.out))
   rintro e w14 ⟨rfl, hb⟩
   refine ⟨_, rfl, ?_⟩
   replace BK376 := ak_ (blk_below (bk_ BK376) hb)
   replace HB := ak_ (below_step hb_ hb)
   (try clear hb)
   (try clear hb2)
   (try clear hk)
   (try clear hi)
   refine hK.out _ _ ⟨(blk_cell BK376.out 0).trans rfl, (blk_cell BK376.out 1).trans rfl, (blk_cell BK376.out 2).trans rfl, (blk_cell BK376.out 3).trans rfl, (blk_cell BK376.out 4).trans rfl, (blk_cell BK376.out 5).trans rfl, (blk_cell BK376.out 6).trans rfl, (blk_cell BK376.out 7).trans rfl, (blk_cell BK376.out 8).trans rfl, (blk_cell BK376.out 9).trans rfl, (blk_cell BK376.out 10).trans rfl, (blk_cell BK376.out 11).trans rfl⟩ (fun hHeld => ?_)
   clear hK K
   refine norm_ (a' := ?_) ?_ ?_
   rotate_left
   ·show Act.put _ (some 17) _ = _
    simp only [Act.put, List.setIfInBounds_toArray, List.set_cons_zero, List.set_cons_succ, i64_w, i32_w]
    rfl
   refine one_ (i := 11) (N := some 21) impl_SetupText.d5 rfl rfl (one_of HT_.out (by kernel_rfl)) (by decide) (fun K hK => ?_)
   refine goes_ Tryd.func25 (by kernel_rfl) rfl #[.int .i64 a0_2] (by rfl) rfl rfl (ma1_ rfl) ?_
   with_reducible refine (impl_number.calls a0_2 t380 _ ?sideL A6.out).mono ?_
   (case sideL => refine lay_at HLAY.out ?_; repeat (first | (with_reducible first | exact HB.out | apply below_alloc | apply pw_below_drewN | apply below_drew1 | refine below_set ?_ GE376.out) | exact HB.out))
   rintro e w15 ⟨rfl, hb⟩
   refine ⟨_, rfl, ?_⟩
   replace BK376 := ak_ (blk_below (bk_ BK376) hb)
   replace HB := ak_ (below_step hb_ hb)
   (try clear hb)
   (try clear hb2)
   (try clear hk)
   (try clear hi)
   refine hK.out _ _ ⟨(blk_cell BK376.out 0).trans rfl, (blk_cell BK376.out 1).trans rfl, (blk_cell BK376.out 2).trans rfl, (blk_cell BK376.out 3).trans rfl, (blk_cell BK376.out 4).trans rfl, (blk_cell BK376.out 5).trans rfl, (blk_cell BK376.out 6).trans rfl, (blk_cell BK376.out 7).trans rfl, (blk_cell BK376.out 8).trans rfl, (blk_cell BK376.out 9).trans rfl, (blk_cell BK376.out 10).trans rfl, (blk_cell BK376.out 11).trans rfl⟩ (fun hHeld => ?_)
   clear hK K
   refine norm_ (a' := ?_) ?_ ?_
   rotate_left
   ·show Act.put _ (some 21) _ = _
    simp only [Act.put, List.setIfInBounds_toArray, List.set_cons_zero, List.set_cons_succ, i64_w, i32_w]
    rfl
   refine one_ (i := 12) (N := some 22) impl_SetupText.d6 rfl rfl (one_of HT_.out (by kernel_rfl)) (by decide) (fun K hK => ?_)
   refine Kd.R_lit_step Kd.string _ 9 ?hg (N := 22) ?hd (xs := ([(⟨#[114, 117, 108, 101, 115]⟩ : ByteArray), t378, t379, t380] : List ByteArray)) (inner := [.string (⟨#[114, 117, 108, 101, 115]⟩ : ByteArray), .string t378, .string t379, .string t380]) (ok := fun _ => True) (okp := fun _ => True) ?hr ?hp (fun _ hk => hk) trivial (Below.refl _ _) (Nat.le_refl _) (by simp) ?_; (case hd => rfl); (case hg => rfl); (case hr => first | (go_simp; done) | (go_simp; rfl)); (case hp => exact (Reps.one (show Kd.M Kd.string _ _ _ (⟨#[114, 117, 108, 101, 115]⟩ : ByteArray) [.string (⟨#[114, 117, 108, 101, 115]⟩ : ByteArray)] from rfl) (Reps.one (show Kd.M Kd.string _ _ _ t378 [.string t378] from rfl) (Reps.one (show Kd.M Kd.string _ _ _ t379 [.string t379] from rfl) (Reps.one (show Kd.M Kd.string _ _ _ t380 [.string t380] from rfl) (Reps.none _ _))))))
   intro v382 w16 ho17 hb hg_ hnew_
   clear hg_ hnew_
   (first | rw [← Ny381.out] at ho17 | (simp only [Int.reduceToNat] at ho17; rw [← Ny381.out] at ho17))
   have HO383 := ak_ (Kd.R_lower ho17 (below_size hb_))
   replace BK376 := ak_ (blk_below (bk_ BK376) hb)
   replace HB := ak_ (below_step hb_ hb)
   clear hb ho17
   obtain ⟨Ao18, co18, eo18⟩ := Kd.R_slice HO383.out
   (first | subst eo18 | (injection eo18 with f1_ f2_ f3_; have f4_ := f1_.symm; have f5_ := f3_.symm; clear f1_ f2_ f3_; subst f4_; subst f5_))
   refine hK.out _ _ ⟨(blk_cell BK376.out 0).trans rfl, (blk_cell BK376.out 1).trans rfl, (blk_cell BK376.out 2).trans rfl, (blk_cell BK376.out 3).trans rfl, (blk_cell BK376.out 4).trans rfl, (blk_cell BK376.out 5).trans rfl, (blk_cell BK376.out 6).trans rfl, (blk_cell BK376.out 7).trans rfl, (blk_cell BK376.out 8).trans rfl, (blk_cell BK376.out 9).trans rfl, (blk_cell BK376.out 10).trans rfl, (blk_cell BK376.out 11).trans rfl⟩ (fun hHeld => ?_)
   clear hK K
   refine norm_ (a' := ?_) ?_ ?_
   rotate_left
   ·show Act.put _ (some 22) _ = _
    simp only [Act.put, List.setIfInBounds_toArray, List.set_cons_zero, List.set_cons_succ, i64_w, i32_w]
    rfl
   refine one_ (i := 13) (N := some 23) impl_SetupText.d7 rfl rfl (one_of HT_.out (by kernel_rfl)) (by decide) (fun K hK => ?_)
   refine goes_ Tryd.func26 (by kernel_rfl) rfl #[.slice Ao18 y381.length co18] (by rfl) rfl rfl (ma1_ rfl) ?_
   with_reducible refine (impl_words.calls _ _ y381 t384 _ ?side1 ?side2 A7.out).mono ?_
   (case side1 => repeat (first | exact (Kd.R_reads' HO383.out).2.2 | (with_reducible refine Kd.C_alloc ?_ _) | (with_reducible refine Kd.C_drewN ?_ _) | (with_reducible refine Kd.C_drew ?_)))
   (case side2 => exact (Kd.R_reads' HO383.out).2.1)
   rintro e w19 ⟨rfl, hb⟩
   refine ⟨_, rfl, ?_⟩
   replace HO383 := ak_ (Kd.R_below (by (with_reducible repeat (first | apply Kd.R_alloc | apply Kd.R_drewN | apply Kd.R_drew)); exact HO383.out) hb)
   replace BK376 := ak_ (blk_below (bk_ BK376) hb)
   replace HB := ak_ (below_step hb_ hb)
   (try clear hb)
   (try clear hb2)
   (try clear hk)
   (try clear hi)
   refine hK.out _ _ ⟨(blk_cell BK376.out 0).trans rfl, (blk_cell BK376.out 1).trans rfl, (blk_cell BK376.out 2).trans rfl, (blk_cell BK376.out 3).trans rfl, (blk_cell BK376.out 4).trans rfl, (blk_cell BK376.out 5).trans rfl, (blk_cell BK376.out 6).trans rfl, (blk_cell BK376.out 7).trans rfl, (blk_cell BK376.out 8).trans rfl, (blk_cell BK376.out 9).trans rfl, (blk_cell BK376.out 10).trans rfl, (blk_cell BK376.out 11).trans rfl⟩ (fun hHeld => ?_)
   clear hK K
   refine norm_ (a' := ?_) ?_ ?_
   rotate_left
   ·show Act.put _ (some 23) _ = _
    simp only [Act.put, List.setIfInBounds_toArray, List.set_cons_zero, List.set_cons_succ, i64_w, i32_w]
    rfl
   refine pure_ (i := 14) (N := some 24) (v := ?_) (a' := ?_) impl_SetupText.d8 rfl rfl (any_of HT_.out (by kernel_rfl)) (fun _ _ _ h => h) (Or.inl ⟨by rfl, ?_⟩) ?_ ?_; rotate_left; (intro w'; go_simp; with_reducible rfl); rotate_left; (simp only [Act.put, List.setIfInBounds_toArray, List.set_cons_zero, List.set_cons_succ, i64_w, i32_w]; rfl)
   refine pure_ (i := 15) (N := some 4) (v := ?_) (a' := ?_) impl_SetupText.d9 rfl rfl (any_of HT_.out (by kernel_rfl)) (fun _ _ _ h => h) (Or.inl ⟨by rfl, ?_⟩) ?_ ?_; rotate_left; (intro w'; go_simp; with_reducible rfl); rotate_left; (simp only [Act.put, List.setIfInBounds_toArray, List.set_cons_zero, List.set_cons_succ, i64_w, i32_w]; rfl)
   refine done_ (done_of HT_.out (by kernel_rfl)) ?_
   obtain ⟨hcz20_0, hcz20_1, hcz20_2, hcz20_3, hcz20_4, hcz20_5, hcz20_6, hcz20_7, hcz20_8, hcz20_9, hcz20_10, hcz20_11, hfz20_0, hfz20_1, hfz20_2, hfz20_3, hfz20_4, hfz20_5, hfz20_6, hfz20_7, hfz20_8, hfz20_9, hfz20_10, hfz20_11⟩ := bc12_ BK376.out
   try go_wp2
   go_loopg [4, 28] k (fun kq v4 v28 w' => ∃ (x4_1 : ByteArray) (x28_1 : Int), v4 = .string x4_1 ∧ v28 = .int .i64 x28_1 ∧ Aside0 (impl_SetupText.l0 kq x4_1 l0_3 (l0_3.length : Int) x28_1 a0_0 a0_1 a0_2 l0_3 l0_4 a0_5 a0_6 l0_7 a0_8 a0_9 a0_10 a0_11 = some (r1, r2)) ∧ Aside0 (kq ≤ k) ∧ Aside0 (w'.heap[gb376]? = some (.cells #[.int .i64 a0_0, .int .i64 a0_1, .int .i64 a0_2, (.slice A0_3 l0_3.length c0_3), (.slice A0_4 l0_4.length c0_4), .int .i64 a0_5, .int .i64 a0_6, (.slice A0_7 l0_7.length c0_7), .int .i64 a0_8, .int .i64 a0_9, .int .i64 a0_10, .int .i64 a0_11] 54 (0, 0))) ∧ Aside0 (Below w.heap.size w w'))
   case atStart => exact ⟨(t384 ++ (⟨#[10]⟩ : ByteArray)), (0), (by first | rfl | (simp; done) | (simp [*]; done)), (by first | rfl | (simp; done) | (simp [*]; done)), H', ⟨Nat.le_refl _⟩, ⟨by (with_reducible repeat (first | refine blk_drewN ?_ _ | refine blk_drew ?_ | refine blk_alloc ?_ _)); exact BK376.out⟩, ⟨hb_⟩⟩
   case round =>
    clear H'
    try clear c1
    try clear c2
    try clear p2
    try clear c3
    try clear c8
    try clear c8b0
    try clear c8b1
    try clear c8b2
    try clear c18
    try clear hcz10_0
    try clear hcz10_1
    try clear hcz10_10
    try clear hcz10_11
    try clear hcz10_2
    try clear hcz10_3
    try clear hcz10_4
    try clear hcz10_5
    try clear hcz10_6
    try clear hcz10_7
    try clear hcz10_8
    try clear hcz10_9
    try clear hcz20_0
    try clear hcz20_1
    try clear hcz20_10
    try clear hcz20_11
    try clear hcz20_2
    try clear hcz20_3
    try clear hcz20_4
    try clear hcz20_5
    try clear hcz20_6
    try clear hcz20_7
    try clear hcz20_8
    try clear hcz20_9
    try clear hfz10_0
    try clear hfz10_1
    try clear hfz10_10
    try clear hfz10_11
    try clear hfz10_2
    try clear hfz10_3
    try clear hfz10_4
    try clear hfz10_5
    try clear hfz10_6
    try clear hfz10_7
    try clear hfz10_8
    try clear hfz10_9
    try clear hfz20_0
    try clear hfz20_1
    try clear hfz20_10
    try clear hfz20_11
    try clear hfz20_2
    try clear hfz20_3
    try clear hfz20_4
    try clear hfz20_5
    try clear hfz20_6
    try clear hfz20_7
    try clear hfz20_8
    try clear hfz20_9
    obtain ⟨x4_1, x28_1, rfl, rfl, HA, HK1, BK376, HB⟩ := hrel
    cases gk with
    | zero => exact absurd HA.out (by simp [impl_SetupText.l0])
    | succ k1 =>
     have H := HA.out
     clear HA
     simp only [impl_SetupText.l0] at H
     by_cases c21 : x28_1 < (l0_3.length : Int)
     ·rw [if_pos c21] at H
      have c21b0 : decide (x28_1 < (l0_3.length : Int)) = true := decide_eq_true c21
      clear c21
      by_cases c22 : 0 ≤ x28_1
      ·rw [if_pos c22] at H
       have c22b0 : decide (0 ≤ x28_1) = true := decide_eq_true c22
       clear c22
       by_cases c23 : x28_1 < (l0_3.length : Int)
       ·rw [if_pos c23] at H
        have c23b0 : decide (x28_1 < (l0_3.length : Int)) = true := decide_eq_true c23
        clear c23
        replace H := Option.bind_eq_some_iff.mp H
        obtain ⟨t387, A240, H⟩ := H
        replace H : (if 5 + t387.size ≤ 9223372036854775807 then (if ((⟨#[103, 111, 97, 108, 32]⟩ : ByteArray) ++ t387).size + 1 ≤ 9223372036854775807 then (if x4_1.size + (((⟨#[103, 111, 97, 108, 32]⟩ : ByteArray) ++ t387) ++ (⟨#[10]⟩ : ByteArray)).size ≤ 9223372036854775807 then (impl_SetupText.l0 k1 (x4_1 ++ (((⟨#[103, 111, 97, 108, 32]⟩ : ByteArray) ++ t387) ++ (⟨#[10]⟩ : ByteArray))) l0_3 (l0_3.length : Int) (wrap64 (x28_1 + 1)) a0_0 a0_1 a0_2 l0_3 l0_4 a0_5 a0_6 l0_7 a0_8 a0_9 a0_10 a0_11) else (none)) else (none)) else (none)) = some (r1, r2) := H
        have A24 := Aside0.mk A240
        clear A240
        by_cases c25 : 5 + t387.size ≤ 9223372036854775807
        ·rw [if_pos c25] at H
         have c25b0 := eq_true c25
         have c25b1 : decide (5 + t387.size ≤ 9223372036854775807) = true := decide_eq_true c25
         try have c25b2 : (9223372036854775807 < 5 + t387.size) = False := eq_false (Nat.not_lt.2 c25)
         by_cases c26 : ((⟨#[103, 111, 97, 108, 32]⟩ : ByteArray) ++ t387).size + 1 ≤ 9223372036854775807
         ·rw [if_pos c26] at H
          have c26n3 := c26
          try simp only [ByteArray.size_append, show (⟨#[103, 111, 97, 108, 32]⟩ : ByteArray).size = 5 from rfl] at c26n3
          try have c26n4 := eq_true c26n3
          try have c26n5 := decide_eq_true c26n3
          try have c26n6 := eq_false (Nat.not_lt.2 c26n3)
          have c26b0 := eq_true c26
          have c26b1 : decide (((⟨#[103, 111, 97, 108, 32]⟩ : ByteArray) ++ t387).size + 1 ≤ 9223372036854775807) = true := decide_eq_true c26
          try have c26b2 : (9223372036854775807 < ((⟨#[103, 111, 97, 108, 32]⟩ : ByteArray) ++ t387).size + 1) = False := eq_false (Nat.not_lt.2 c26)
          by_cases c27 : x4_1.size + (((⟨#[103, 111, 97, 108, 32]⟩ : ByteArray) ++ t387) ++ (⟨#[10]⟩ : ByteArray)).size ≤ 9223372036854775807
          ·rw [if_pos c27] at H
           have c27n3 := c27
           try simp only [ByteArray.size_append, show (⟨#[10]⟩ : ByteArray).size = 1 from rfl, show (⟨#[103, 111, 97, 108, 32]⟩ : ByteArray).size = 5 from rfl] at c27n3
           try have c27n4 := eq_true c27n3
           try have c27n5 := decide_eq_true c27n3
           try have c27n6 := eq_false (Nat.not_lt.2 c27n3)
           have c27b0 := eq_true c27
           have c27b1 : decide (x4_1.size + (((⟨#[103, 111, 97, 108, 32]⟩ : ByteArray) ++ t387) ++ (⟨#[10]⟩ : ByteArray)).size ≤ 9223372036854775807) = true := decide_eq_true c27
           try have c27b2 : (9223372036854775807 < x4_1.size + (((⟨#[103, 111, 97, 108, 32]⟩ : ByteArray) ++ t387) ++ (⟨#[10]⟩ : ByteArray)).size) = False := eq_false (Nat.not_lt.2 c27)
           have H' := Aside0.mk H
           clear H
           have p385 : 0 ≤ (x28_1 : Int) := of_decide_eq_true (by first | (with_reducible assumption) | assumption)
           have q385 : x28_1 < (l0_3.length : Int) := of_decide_eq_true (by first | (with_reducible assumption) | assumption)
           obtain ⟨ad385, e385, hx385_0, hx385_1, hx385_2⟩ := at_T75 HR0_3.out x28_1 p385 q385
           cases e385
           replace hx385_0 := cx_ HB hx385_0
           replace hx385_1 := cx_ HB hx385_1
           replace hx385_2 := cx_ HB hx385_2
           replace p385 := eq_true p385
           replace q385 := eq_true q385
           go_wp2_with (first | ((with_reducible refine gate_dst (N := 6) rfl ?_); refine be_ (N := 6) (cs := #[.string (⟨#[]⟩ : ByteArray), .int .i64 0, .int .i64 0]) (t := 75) ?_; intro gb386 hg w28 hbox hb; have BK386 := ak_ hbox; have GW386 := ak_ ((gs_ hg : w.heap.size ≤ gb386)); have GE386 := ak_ ((gs_ hg : w.heap.size ≤ gb386)); replace HB := ak_ (below_step hb_ hb); have NB376_386 := ak_ (nl_ hg (bk_ BK376)); have NB386_376 := ak_ (ng_ hg (bk_ BK376)); replace BK376 := ak_ (blk_below (bk_ BK376) hb); clear hb hbox hg; have hnb29 := NB386_376.out; have hnc29 := NB376_386.out; obtain ⟨hcz30_0, hcz30_1, hcz30_2, hfz30_0, hfz30_1, hfz30_2⟩ := bc3_ BK386.out) | ((with_reducible refine gate_callee (f := 40) rfl ?_); refine goesL_ (some 34) rfl rfl Tryd.func40 (by kernel_rfl) rfl #[.agg #[.string ((rd_T75 l0_3 x28_1).f0), .int .i64 ((rd_T75 l0_3 x28_1).f1), .int .i64 ((rd_T75 l0_3 x28_1).f2)]] rfl (ma1_ rfl) ?_; (with_reducible refine (impl_GoalLine.calls k1 ((rd_T75 l0_3 x28_1).f0) ((rd_T75 l0_3 x28_1).f1) ((rd_T75 l0_3 x28_1).f2) t387 _ ?sideL A24.out).mono ?_); (case sideL => refine lay_at HLAY.out ?_; repeat (first | (with_reducible first | exact HB.out | apply below_alloc | apply pw_below_drewN | apply below_drew1 | refine below_set ?_ GE376.out | refine below_set ?_ GE386.out) | exact HB.out)); rintro e w31 ⟨rfl, hb⟩; refine ⟨_, rfl, ?_⟩; replace BK376 := ak_ (blk_below (bk_ BK376) hb); replace BK386 := ak_ (blk_below (g := gb386) (o := .cells #[.string ((rd_T75 l0_3 x28_1).f0), .int .i64 ((rd_T75 l0_3 x28_1).f1), .int .i64 ((rd_T75 l0_3 x28_1).f2)] 75 (0, 0)) (by (with_reducible repeat (first | refine blk_drewN ?_ _ | refine blk_drew ?_ | refine blk_alloc ?_ _)); refine blk_put (cs := #[.string ((rd_T75 l0_3 x28_1).f0), .int .i64 ((rd_T75 l0_3 x28_1).f1), .int .i64 0]) ?_ 2 _ rfl; (with_reducible repeat (first | refine blk_drewN ?_ _ | refine blk_drew ?_ | refine blk_alloc ?_ _)); refine blk_put (cs := #[.string ((rd_T75 l0_3 x28_1).f0), .int .i64 0, .int .i64 0]) ?_ 1 _ rfl; (with_reducible repeat (first | refine blk_drewN ?_ _ | refine blk_drew ?_ | refine blk_alloc ?_ _)); refine blk_put (cs := #[.string (⟨#[]⟩ : ByteArray), .int .i64 0, .int .i64 0]) ?_ 0 _ rfl; (with_reducible repeat (first | refine blk_drewN ?_ _ | refine blk_drew ?_ | refine blk_alloc ?_ _)); exact BK386.out) hb); replace HB := ak_ (below_step hb_ hb); (try clear hb)))
           go_roundg k1
           case measure => have := HK1.out; omega
           case rel => exact ⟨(x4_1 ++ (((⟨#[103, 111, 97, 108, 32]⟩ : ByteArray) ++ t387) ++ (⟨#[10]⟩ : ByteArray))), (wrap64 (x28_1 + 1)), (by first | rfl | (simp; done) | (simp [*]; done)), (by first | rfl | (simp; done) | (simp [*]; done)), H', ⟨by have := HK1.out; omega⟩, ⟨by (with_reducible repeat (first | refine blk_drewN ?_ _ | refine blk_drew ?_ | refine blk_alloc ?_ _)); exact BK376.out⟩, ⟨hb_⟩⟩
          ·rw [if_neg c27] at H
           exact absurd H (by simp)
         ·rw [if_neg c26] at H
          exact absurd H (by simp)
        ·rw [if_neg c25] at H
         exact absurd H (by simp)
       ·rw [if_neg c23] at H
        exact absurd H (by simp)
      ·rw [if_neg c22] at H
       exact absurd H (by simp)
     ·rw [if_neg c21] at H
      have c21b0 : decide (x28_1 < (l0_3.length : Int)) = false := decide_eq_false c21
      clear c21
      replace H := Option.bind_eq_some_iff.mp H
      obtain ⟨t388, A320, H⟩ := H
      replace H : ((impl_number.f a0_11).bind fun t389 => ((impl_words.f (([(⟨#[99, 111, 117, 110, 116]⟩ : ByteArray), t388, t389] : List ByteArray))).bind fun t393 => (if t393.size + 1 ≤ 9223372036854775807 then (if x4_1.size + (t393 ++ (⟨#[10]⟩ : ByteArray)).size ≤ 9223372036854775807 then (if (x4_1 ++ (t393 ++ (⟨#[10]⟩ : ByteArray))).size + 3 ≤ 9223372036854775807 then ((impl_SideText.f k1 l0_4 a0_5 a0_6).bind fun t394 => (if ((x4_1 ++ (t393 ++ (⟨#[10]⟩ : ByteArray))) ++ (⟨#[117, 112, 32]⟩ : ByteArray)).size + t394.size ≤ 9223372036854775807 then (if (((x4_1 ++ (t393 ++ (⟨#[10]⟩ : ByteArray))) ++ (⟨#[117, 112, 32]⟩ : ByteArray)) ++ t394).size + 6 ≤ 9223372036854775807 then ((impl_SideText.f k1 l0_7 a0_8 a0_9).bind fun t395 => (if ((((x4_1 ++ (t393 ++ (⟨#[10]⟩ : ByteArray))) ++ (⟨#[117, 112, 32]⟩ : ByteArray)) ++ t394) ++ (⟨#[10, 100, 111, 119, 110, 32]⟩ : ByteArray)).size + t395.size ≤ 9223372036854775807 then (if (((((x4_1 ++ (t393 ++ (⟨#[10]⟩ : ByteArray))) ++ (⟨#[117, 112, 32]⟩ : ByteArray)) ++ t394) ++ (⟨#[10, 100, 111, 119, 110, 32]⟩ : ByteArray)) ++ t395).size + 1 ≤ 9223372036854775807 then (some ((((((x4_1 ++ (t393 ++ (⟨#[10]⟩ : ByteArray))) ++ (⟨#[117, 112, 32]⟩ : ByteArray)) ++ t394) ++ (⟨#[10, 100, 111, 119, 110, 32]⟩ : ByteArray)) ++ t395) ++ (⟨#[10]⟩ : ByteArray), true)) else (none)) else (none))) else (none)) else (none))) else (none)) else (none)) else (none)))) = some (r1, r2) := H
      have A32 := Aside0.mk A320
      clear A320
      replace H := Option.bind_eq_some_iff.mp H
      obtain ⟨t389, A330, H⟩ := H
      replace H : ((impl_words.f (([(⟨#[99, 111, 117, 110, 116]⟩ : ByteArray), t388, t389] : List ByteArray))).bind fun t393 => (if t393.size + 1 ≤ 9223372036854775807 then (if x4_1.size + (t393 ++ (⟨#[10]⟩ : ByteArray)).size ≤ 9223372036854775807 then (if (x4_1 ++ (t393 ++ (⟨#[10]⟩ : ByteArray))).size + 3 ≤ 9223372036854775807 then ((impl_SideText.f k1 l0_4 a0_5 a0_6).bind fun t394 => (if ((x4_1 ++ (t393 ++ (⟨#[10]⟩ : ByteArray))) ++ (⟨#[117, 112, 32]⟩ : ByteArray)).size + t394.size ≤ 9223372036854775807 then (if (((x4_1 ++ (t393 ++ (⟨#[10]⟩ : ByteArray))) ++ (⟨#[117, 112, 32]⟩ : ByteArray)) ++ t394).size + 6 ≤ 9223372036854775807 then ((impl_SideText.f k1 l0_7 a0_8 a0_9).bind fun t395 => (if ((((x4_1 ++ (t393 ++ (⟨#[10]⟩ : ByteArray))) ++ (⟨#[117, 112, 32]⟩ : ByteArray)) ++ t394) ++ (⟨#[10, 100, 111, 119, 110, 32]⟩ : ByteArray)).size + t395.size ≤ 9223372036854775807 then (if (((((x4_1 ++ (t393 ++ (⟨#[10]⟩ : ByteArray))) ++ (⟨#[117, 112, 32]⟩ : ByteArray)) ++ t394) ++ (⟨#[10, 100, 111, 119, 110, 32]⟩ : ByteArray)) ++ t395).size + 1 ≤ 9223372036854775807 then (some ((((((x4_1 ++ (t393 ++ (⟨#[10]⟩ : ByteArray))) ++ (⟨#[117, 112, 32]⟩ : ByteArray)) ++ t394) ++ (⟨#[10, 100, 111, 119, 110, 32]⟩ : ByteArray)) ++ t395) ++ (⟨#[10]⟩ : ByteArray), true)) else (none)) else (none))) else (none)) else (none))) else (none)) else (none)) else (none))) = some (r1, r2) := H
      have A33 := Aside0.mk A330
      clear A330
      obtain ⟨y390, hy390⟩ : ∃ y_ : List ByteArray, y_ = (([(⟨#[99, 111, 117, 110, 116]⟩ : ByteArray), t388, t389] : List ByteArray)) := ⟨_, rfl⟩
      replace H : ((impl_words.f y390).bind fun t393 => (if t393.size + 1 ≤ 9223372036854775807 then (if x4_1.size + (t393 ++ (⟨#[10]⟩ : ByteArray)).size ≤ 9223372036854775807 then (if (x4_1 ++ (t393 ++ (⟨#[10]⟩ : ByteArray))).size + 3 ≤ 9223372036854775807 then ((impl_SideText.f k1 l0_4 a0_5 a0_6).bind fun t394 => (if ((x4_1 ++ (t393 ++ (⟨#[10]⟩ : ByteArray))) ++ (⟨#[117, 112, 32]⟩ : ByteArray)).size + t394.size ≤ 9223372036854775807 then (if (((x4_1 ++ (t393 ++ (⟨#[10]⟩ : ByteArray))) ++ (⟨#[117, 112, 32]⟩ : ByteArray)) ++ t394).size + 6 ≤ 9223372036854775807 then ((impl_SideText.f k1 l0_7 a0_8 a0_9).bind fun t395 => (if ((((x4_1 ++ (t393 ++ (⟨#[10]⟩ : ByteArray))) ++ (⟨#[117, 112, 32]⟩ : ByteArray)) ++ t394) ++ (⟨#[10, 100, 111, 119, 110, 32]⟩ : ByteArray)).size + t395.size ≤ 9223372036854775807 then (if (((((x4_1 ++ (t393 ++ (⟨#[10]⟩ : ByteArray))) ++ (⟨#[117, 112, 32]⟩ : ByteArray)) ++ t394) ++ (⟨#[10, 100, 111, 119, 110, 32]⟩ : ByteArray)) ++ t395).size + 1 ≤ 9223372036854775807 then (some ((((((x4_1 ++ (t393 ++ (⟨#[10]⟩ : ByteArray))) ++ (⟨#[117, 112, 32]⟩ : ByteArray)) ++ t394) ++ (⟨#[10, 100, 111, 119, 110, 32]⟩ : ByteArray)) ++ t395) ++ (⟨#[10]⟩ : ByteArray), true)) else (none)) else (none))) else (none)) else (none))) else (none)) else (none)) else (none))) = some (r1, r2) := by first | (rw [hy390]; with_reducible exact H) | (have H2_ := (Option.bind_some _ _).symm.trans H; rw [hy390]; with_reducible exact H2_) | (have H2_ := (Option.bind_some _ _).symm.trans H; with_reducible exact H2_) | with_reducible exact H | (rw [hy390]; exact H) | exact H
      have Ny390 := Aside0.mk hy390
      clear hy390
      replace H := Option.bind_eq_some_iff.mp H
      obtain ⟨t393, A340, H⟩ := H
      replace H : (if t393.size + 1 ≤ 9223372036854775807 then (if x4_1.size + (t393 ++ (⟨#[10]⟩ : ByteArray)).size ≤ 9223372036854775807 then (if (x4_1 ++ (t393 ++ (⟨#[10]⟩ : ByteArray))).size + 3 ≤ 9223372036854775807 then ((impl_SideText.f k1 l0_4 a0_5 a0_6).bind fun t394 => (if ((x4_1 ++ (t393 ++ (⟨#[10]⟩ : ByteArray))) ++ (⟨#[117, 112, 32]⟩ : ByteArray)).size + t394.size ≤ 9223372036854775807 then (if (((x4_1 ++ (t393 ++ (⟨#[10]⟩ : ByteArray))) ++ (⟨#[117, 112, 32]⟩ : ByteArray)) ++ t394).size + 6 ≤ 9223372036854775807 then ((impl_SideText.f k1 l0_7 a0_8 a0_9).bind fun t395 => (if ((((x4_1 ++ (t393 ++ (⟨#[10]⟩ : ByteArray))) ++ (⟨#[117, 112, 32]⟩ : ByteArray)) ++ t394) ++ (⟨#[10, 100, 111, 119, 110, 32]⟩ : ByteArray)).size + t395.size ≤ 9223372036854775807 then (if (((((x4_1 ++ (t393 ++ (⟨#[10]⟩ : ByteArray))) ++ (⟨#[117, 112, 32]⟩ : ByteArray)) ++ t394) ++ (⟨#[10, 100, 111, 119, 110, 32]⟩ : ByteArray)) ++ t395).size + 1 ≤ 9223372036854775807 then (some ((((((x4_1 ++ (t393 ++ (⟨#[10]⟩ : ByteArray))) ++ (⟨#[117, 112, 32]⟩ : ByteArray)) ++ t394) ++ (⟨#[10, 100, 111, 119, 110, 32]⟩ : ByteArray)) ++ t395) ++ (⟨#[10]⟩ : ByteArray), true)) else (none)) else (none))) else (none)) else (none))) else (none)) else (none)) else (none)) = some (r1, r2) := H
      have A34 := Aside0.mk A340
      clear A340
      by_cases c35 : t393.size + 1 ≤ 9223372036854775807
      ·rw [if_pos c35] at H
       have c35b0 := eq_true c35
       have c35b1 : decide (t393.size + 1 ≤ 9223372036854775807) = true := decide_eq_true c35
       try have c35b2 : (9223372036854775807 < t393.size + 1) = False := eq_false (Nat.not_lt.2 c35)
       by_cases c36 : x4_1.size + (t393 ++ (⟨#[10]⟩ : ByteArray)).size ≤ 9223372036854775807
       ·rw [if_pos c36] at H
        have c36n3 := c36
        try simp only [ByteArray.size_append, show (⟨#[10]⟩ : ByteArray).size = 1 from rfl] at c36n3
        try have c36n4 := eq_true c36n3
        try have c36n5 := decide_eq_true c36n3
        try have c36n6 := eq_false (Nat.not_lt.2 c36n3)
        have c36b0 := eq_true c36
        have c36b1 : decide (x4_1.size + (t393 ++ (⟨#[10]⟩ : ByteArray)).size ≤ 9223372036854775807) = true := decide_eq_true c36
        try have c36b2 : (9223372036854775807 < x4_1.size + (t393 ++ (⟨#[10]⟩ : ByteArray)).size) = False := eq_false (Nat.not_lt.2 c36)
        by_cases c37 : (x4_1 ++ (t393 ++ (⟨#[10]⟩ : ByteArray))).size + 3 ≤ 9223372036854775807
        ·rw [if_pos c37] at H
         have c37n3 := c37
         try simp only [ByteArray.size_append, show (⟨#[10]⟩ : ByteArray).size = 1 from rfl] at c37n3
         try have c37n4 := eq_true c37n3
         try have c37n5 := decide_eq_true c37n3
         try have c37n6 := eq_false (Nat.not_lt.2 c37n3)
         have c37b0 := eq_true c37
         have c37b1 : decide ((x4_1 ++ (t393 ++ (⟨#[10]⟩ : ByteArray))).size + 3 ≤ 9223372036854775807) = true := decide_eq_true c37
         try have c37b2 : (9223372036854775807 < (x4_1 ++ (t393 ++ (⟨#[10]⟩ : ByteArray))).size + 3) = False := eq_false (Nat.not_lt.2 c37)
         replace H := Option.bind_eq_some_iff.mp H
         obtain ⟨t394, A380, H⟩ := H
         replace H : (if ((x4_1 ++ (t393 ++ (⟨#[10]⟩ : ByteArray))) ++ (⟨#[117, 112, 32]⟩ : ByteArray)).size + t394.size ≤ 9223372036854775807 then (if (((x4_1 ++ (t393 ++ (⟨#[10]⟩ : ByteArray))) ++ (⟨#[117, 112, 32]⟩ : ByteArray)) ++ t394).size + 6 ≤ 9223372036854775807 then ((impl_SideText.f k1 l0_7 a0_8 a0_9).bind fun t395 => (if ((((x4_1 ++ (t393 ++ (⟨#[10]⟩ : ByteArray))) ++ (⟨#[117, 112, 32]⟩ : ByteArray)) ++ t394) ++ (⟨#[10, 100, 111, 119, 110, 32]⟩ : ByteArray)).size + t395.size ≤ 9223372036854775807 then (if (((((x4_1 ++ (t393 ++ (⟨#[10]⟩ : ByteArray))) ++ (⟨#[117, 112, 32]⟩ : ByteArray)) ++ t394) ++ (⟨#[10, 100, 111, 119, 110, 32]⟩ : ByteArray)) ++ t395).size + 1 ≤ 9223372036854775807 then (some ((((((x4_1 ++ (t393 ++ (⟨#[10]⟩ : ByteArray))) ++ (⟨#[117, 112, 32]⟩ : ByteArray)) ++ t394) ++ (⟨#[10, 100, 111, 119, 110, 32]⟩ : ByteArray)) ++ t395) ++ (⟨#[10]⟩ : ByteArray), true)) else (none)) else (none))) else (none)) else (none)) = some (r1, r2) := H
         have A38 := Aside0.mk A380
         clear A380
         by_cases c39 : ((x4_1 ++ (t393 ++ (⟨#[10]⟩ : ByteArray))) ++ (⟨#[117, 112, 32]⟩ : ByteArray)).size + t394.size ≤ 9223372036854775807
         ·rw [if_pos c39] at H
          have c39n3 := c39
          try simp only [ByteArray.size_append, show (⟨#[10]⟩ : ByteArray).size = 1 from rfl, show (⟨#[117, 112, 32]⟩ : ByteArray).size = 3 from rfl] at c39n3
          try have c39n4 := eq_true c39n3
          try have c39n5 := decide_eq_true c39n3
          try have c39n6 := eq_false (Nat.not_lt.2 c39n3)
          have c39b0 := eq_true c39
          have c39b1 : decide (((x4_1 ++ (t393 ++ (⟨#[10]⟩ : ByteArray))) ++ (⟨#[117, 112, 32]⟩ : ByteArray)).size + t394.size ≤ 9223372036854775807) = true := decide_eq_true c39
          try have c39b2 : (9223372036854775807 < ((x4_1 ++ (t393 ++ (⟨#[10]⟩ : ByteArray))) ++ (⟨#[117, 112, 32]⟩ : ByteArray)).size + t394.size) = False := eq_false (Nat.not_lt.2 c39)
          by_cases c40 : (((x4_1 ++ (t393 ++ (⟨#[10]⟩ : ByteArray))) ++ (⟨#[117, 112, 32]⟩ : ByteArray)) ++ t394).size + 6 ≤ 9223372036854775807
          ·rw [if_pos c40] at H
           have c40n3 := c40
           try simp only [ByteArray.size_append, show (⟨#[10]⟩ : ByteArray).size = 1 from rfl, show (⟨#[117, 112, 32]⟩ : ByteArray).size = 3 from rfl] at c40n3
           try have c40n4 := eq_true c40n3
           try have c40n5 := decide_eq_true c40n3
           try have c40n6 := eq_false (Nat.not_lt.2 c40n3)
           have c40b0 := eq_true c40
           have c40b1 : decide ((((x4_1 ++ (t393 ++ (⟨#[10]⟩ : ByteArray))) ++ (⟨#[117, 112, 32]⟩ : ByteArray)) ++ t394).size + 6 ≤ 9223372036854775807) = true := decide_eq_true c40
           try have c40b2 : (9223372036854775807 < (((x4_1 ++ (t393 ++ (⟨#[10]⟩ : ByteArray))) ++ (⟨#[117, 112, 32]⟩ : ByteArray)) ++ t394).size + 6) = False := eq_false (Nat.not_lt.2 c40)
           replace H := Option.bind_eq_some_iff.mp H
           obtain ⟨t395, A410, H⟩ := H
           replace H : (if ((((x4_1 ++ (t393 ++ (⟨#[10]⟩ : ByteArray))) ++ (⟨#[117, 112, 32]⟩ : ByteArray)) ++ t394) ++ (⟨#[10, 100, 111, 119, 110, 32]⟩ : ByteArray)).size + t395.size ≤ 9223372036854775807 then (if (((((x4_1 ++ (t393 ++ (⟨#[10]⟩ : ByteArray))) ++ (⟨#[117, 112, 32]⟩ : ByteArray)) ++ t394) ++ (⟨#[10, 100, 111, 119, 110, 32]⟩ : ByteArray)) ++ t395).size + 1 ≤ 9223372036854775807 then (some ((((((x4_1 ++ (t393 ++ (⟨#[10]⟩ : ByteArray))) ++ (⟨#[117, 112, 32]⟩ : ByteArray)) ++ t394) ++ (⟨#[10, 100, 111, 119, 110, 32]⟩ : ByteArray)) ++ t395) ++ (⟨#[10]⟩ : ByteArray), true)) else (none)) else (none)) = some (r1, r2) := H
           have A41 := Aside0.mk A410
           clear A410
           by_cases c42 : ((((x4_1 ++ (t393 ++ (⟨#[10]⟩ : ByteArray))) ++ (⟨#[117, 112, 32]⟩ : ByteArray)) ++ t394) ++ (⟨#[10, 100, 111, 119, 110, 32]⟩ : ByteArray)).size + t395.size ≤ 9223372036854775807
           ·rw [if_pos c42] at H
            have c42n3 := c42
            try simp only [ByteArray.size_append, show (⟨#[10]⟩ : ByteArray).size = 1 from rfl, show (⟨#[10, 100, 111, 119, 110, 32]⟩ : ByteArray).size = 6 from rfl, show (⟨#[117, 112, 32]⟩ : ByteArray).size = 3 from rfl] at c42n3
            try have c42n4 := eq_true c42n3
            try have c42n5 := decide_eq_true c42n3
            try have c42n6 := eq_false (Nat.not_lt.2 c42n3)
            have c42b0 := eq_true c42
            have c42b1 : decide (((((x4_1 ++ (t393 ++ (⟨#[10]⟩ : ByteArray))) ++ (⟨#[117, 112, 32]⟩ : ByteArray)) ++ t394) ++ (⟨#[10, 100, 111, 119, 110, 32]⟩ : ByteArray)).size + t395.size ≤ 9223372036854775807) = true := decide_eq_true c42
            try have c42b2 : (9223372036854775807 < ((((x4_1 ++ (t393 ++ (⟨#[10]⟩ : ByteArray))) ++ (⟨#[117, 112, 32]⟩ : ByteArray)) ++ t394) ++ (⟨#[10, 100, 111, 119, 110, 32]⟩ : ByteArray)).size + t395.size) = False := eq_false (Nat.not_lt.2 c42)
            by_cases c43 : (((((x4_1 ++ (t393 ++ (⟨#[10]⟩ : ByteArray))) ++ (⟨#[117, 112, 32]⟩ : ByteArray)) ++ t394) ++ (⟨#[10, 100, 111, 119, 110, 32]⟩ : ByteArray)) ++ t395).size + 1 ≤ 9223372036854775807
            ·rw [if_pos c43] at H
             have c43n3 := c43
             try simp only [ByteArray.size_append, show (⟨#[10]⟩ : ByteArray).size = 1 from rfl, show (⟨#[10, 100, 111, 119, 110, 32]⟩ : ByteArray).size = 6 from rfl, show (⟨#[117, 112, 32]⟩ : ByteArray).size = 3 from rfl] at c43n3
             try have c43n4 := eq_true c43n3
             try have c43n5 := decide_eq_true c43n3
             try have c43n6 := eq_false (Nat.not_lt.2 c43n3)
             have c43b0 := eq_true c43
             have c43b1 : decide ((((((x4_1 ++ (t393 ++ (⟨#[10]⟩ : ByteArray))) ++ (⟨#[117, 112, 32]⟩ : ByteArray)) ++ t394) ++ (⟨#[10, 100, 111, 119, 110, 32]⟩ : ByteArray)) ++ t395).size + 1 ≤ 9223372036854775807) = true := decide_eq_true c43
             try have c43b2 : (9223372036854775807 < (((((x4_1 ++ (t393 ++ (⟨#[10]⟩ : ByteArray))) ++ (⟨#[117, 112, 32]⟩ : ByteArray)) ++ t394) ++ (⟨#[10, 100, 111, 119, 110, 32]⟩ : ByteArray)) ++ t395).size + 1) = False := eq_false (Nat.not_lt.2 c43)
             simp only [Option.some.injEq, Prod.mk.injEq] at H
             obtain ⟨rfl, rfl⟩ := H
             try go_wp2
             replace BK376 := ak_ (blk_drew BK376.out)
             replace HB := ak_ (below_drew1 HB.out)
             refine start_ (n := 14) (S := fun w' => w'.cell? ⟨gb376, 0, none⟩ = some (.int .i64 a0_0) ∧ w'.cell? ⟨gb376, 1, none⟩ = some (.int .i64 a0_1) ∧ w'.cell? ⟨gb376, 2, none⟩ = some (.int .i64 a0_2) ∧ w'.cell? ⟨gb376, 3, none⟩ = some (.slice A0_3 l0_3.length c0_3) ∧ w'.cell? ⟨gb376, 4, none⟩ = some (.slice A0_4 l0_4.length c0_4) ∧ w'.cell? ⟨gb376, 5, none⟩ = some (.int .i64 a0_5) ∧ w'.cell? ⟨gb376, 6, none⟩ = some (.int .i64 a0_6) ∧ w'.cell? ⟨gb376, 7, none⟩ = some (.slice A0_7 l0_7.length c0_7) ∧ w'.cell? ⟨gb376, 8, none⟩ = some (.int .i64 a0_8) ∧ w'.cell? ⟨gb376, 9, none⟩ = some (.int .i64 a0_9) ∧ w'.cell? ⟨gb376, 10, none⟩ = some (.int .i64 a0_10) ∧ w'.cell? ⟨gb376, 11, none⟩ = some (.int .i64 a0_11)) (ds := []) #[false, false, false, false, false, false, false, false, false, false, false, false, false, false] (by kernel_rfl) rfl rfl ⟨(blk_cell BK376.out 0).trans rfl, (blk_cell BK376.out 1).trans rfl, (blk_cell BK376.out 2).trans rfl, (blk_cell BK376.out 3).trans rfl, (blk_cell BK376.out 4).trans rfl, (blk_cell BK376.out 5).trans rfl, (blk_cell BK376.out 6).trans rfl, (blk_cell BK376.out 7).trans rfl, (blk_cell BK376.out 8).trans rfl, (blk_cell BK376.out 9).trans rfl, (blk_cell BK376.out 10).trans rfl, (blk_cell BK376.out 11).trans rfl⟩ (fun hHeld => ?_); refine with_tabW impl_SetupText.tab9 impl_SetupText.bits9 (fun HT_ HW_ => ?_)
             generalize wr.drew = w44 at BK376 HB hHeld ⊢
             refine pure_ (i := 0) (N := some 39) (v := ?_) (a' := ?_) #[true, false, false, false, false, false, false, false, false, false, false, false, false, false] rfl rfl (any_of HT_.out (by kernel_rfl)) (fun _ _ _ h => h) (Or.inl ⟨by rfl, ?_⟩) ?_ ?_; rotate_left; (intro w'; go_simp; with_reducible rfl); rotate_left; (simp only [Act.put, List.setIfInBounds_toArray, List.set_cons_zero, List.set_cons_succ, i64_w, i32_w]; rfl)
             refine pure_ (i := 1) (N := some 40) (v := ?_) (a' := ?_) #[true, true, false, false, false, false, false, false, false, false, false, false, false, false] rfl rfl (any_of HT_.out (by kernel_rfl)) (fun _ _ _ h => h) (Or.inl ⟨by rfl, ?_⟩) ?_ ?_; rotate_left; (intro w'; go_simp; with_reducible rfl); rotate_left; (simp only [Act.put, List.setIfInBounds_toArray, List.set_cons_zero, List.set_cons_succ, i64_w, i32_w]; rfl)
             refine pure_ (i := 2) (N := some 41) (v := ?_) (a' := ?_) #[true, true, true, false, false, false, false, false, false, false, false, false, false, false] rfl rfl (any_of HT_.out (by kernel_rfl)) (fun _ _ _ h => h) (Or.inl ⟨by rfl, ?_⟩) ?_ ?_; rotate_left; (intro w'; go_simp; with_reducible rfl); rotate_left; (simp only [Act.put, List.setIfInBounds_toArray, List.set_cons_zero, List.set_cons_succ, i64_w, i32_w]; rfl)
             refine pure_ (i := 5) (N := some 44) (v := ?_) (a' := ?_) #[true, true, true, false, false, true, false, false, false, false, false, false, false, false] rfl rfl (any_of HT_.out (by kernel_rfl)) (fun _ _ _ h => h) (Or.inl ⟨by rfl, ?_⟩) ?_ ?_; rotate_left; (intro w'; go_simp; with_reducible rfl); rotate_left; (simp only [Act.put, List.setIfInBounds_toArray, List.set_cons_zero, List.set_cons_succ, i64_w, i32_w]; rfl)
             refine pure_ (i := 6) (N := some 45) (v := ?_) (a' := ?_) #[true, true, true, false, false, true, true, false, false, false, false, false, false, false] rfl rfl (any_of HT_.out (by kernel_rfl)) (fun _ _ _ h => h) (Or.inl ⟨by rfl, ?_⟩) ?_ ?_; rotate_left; (intro w'; go_simp; with_reducible rfl); rotate_left; (simp only [Act.put, List.setIfInBounds_toArray, List.set_cons_zero, List.set_cons_succ, i64_w, i32_w]; rfl)
             refine take_ (i := 3) (N := some 42) (v := ?_) (a' := ?_) #[true, true, true, true, false, true, true, false, false, false, false, false, false, false] rfl rfl (take_ofW HT_.out HW_.out (by kernel_rfl)) (fun _ _ _ h => h) (Or.inl ⟨by rfl, ?_⟩) hHeld ?_ ?_; rotate_left; (rintro w' ⟨s0, s1, s2, s3, s4, s5, s6, s7, s8, s9, s10, s11⟩; go_simp; with_reducible rfl); rotate_left; (simp only [Act.put, List.setIfInBounds_toArray, List.set_cons_zero, List.set_cons_succ, i64_w, i32_w]; rfl)
             refine take_ (i := 7) (N := some 46) (v := ?_) (a' := ?_) #[true, true, true, true, false, true, true, true, false, false, false, false, false, false] rfl rfl (take_ofW HT_.out HW_.out (by kernel_rfl)) (fun _ _ _ h => h) (Or.inl ⟨by rfl, ?_⟩) hHeld ?_ ?_; rotate_left; (rintro w' ⟨s0, s1, s2, s3, s4, s5, s6, s7, s8, s9, s10, s11⟩; go_simp; with_reducible rfl); rotate_left; (simp only [Act.put, List.setIfInBounds_toArray, List.set_cons_zero, List.set_cons_succ, i64_w, i32_w]; rfl)
             refine one_ (i := 4) (N := some 43) #[true, true, true, true, true, true, true, true, false, false, false, false, false, false] rfl rfl (one_of HT_.out (by kernel_rfl)) (by decide) (fun K hK => ?_)
             refine goes_ Tryd.func25 (by kernel_rfl) rfl #[.int .i64 a0_10] (by rfl) rfl rfl (ma1_ rfl) ?_
             with_reducible refine (impl_number.calls a0_10 t388 _ ?sideL A32.out).mono ?_
             (case sideL => refine lay_at HLAY.out ?_; repeat (first | (with_reducible first | exact HB.out | apply below_alloc | apply pw_below_drewN | apply below_drew1 | refine below_set ?_ GE376.out) | exact HB.out))
             rintro e w45 ⟨rfl, hb⟩
             refine ⟨_, rfl, ?_⟩
             replace BK376 := ak_ (blk_below (bk_ BK376) hb)
             replace HB := ak_ (below_step hb_ hb)
             (try clear hb)
             (try clear hb2)
             (try clear hk)
             (try clear hi)
             refine hK.out _ _ ⟨(blk_cell BK376.out 0).trans rfl, (blk_cell BK376.out 1).trans rfl, (blk_cell BK376.out 2).trans rfl, (blk_cell BK376.out 3).trans rfl, (blk_cell BK376.out 4).trans rfl, (blk_cell BK376.out 5).trans rfl, (blk_cell BK376.out 6).trans rfl, (blk_cell BK376.out 7).trans rfl, (blk_cell BK376.out 8).trans rfl, (blk_cell BK376.out 9).trans rfl, (blk_cell BK376.out 10).trans rfl, (blk_cell BK376.out 11).trans rfl⟩ (fun hHeld => ?_)
             clear hK K
             refine norm_ (a' := ?_) ?_ ?_
             rotate_left
             ·show Act.put _ (some 43) _ = _
              simp only [Act.put, List.setIfInBounds_toArray, List.set_cons_zero, List.set_cons_succ, i64_w, i32_w]
              rfl
             refine one_ (i := 8) (N := some 47) #[true, true, true, true, true, true, true, true, true, false, false, false, false, false] rfl rfl (one_of HT_.out (by kernel_rfl)) (by decide) (fun K hK => ?_)
             refine goes_ Tryd.func25 (by kernel_rfl) rfl #[.int .i64 a0_11] (by rfl) rfl rfl (ma1_ rfl) ?_
             with_reducible refine (impl_number.calls a0_11 t389 _ ?sideL A33.out).mono ?_
             (case sideL => refine lay_at HLAY.out ?_; repeat (first | (with_reducible first | exact HB.out | apply below_alloc | apply pw_below_drewN | apply below_drew1 | refine below_set ?_ GE376.out) | exact HB.out))
             rintro e w46 ⟨rfl, hb⟩
             refine ⟨_, rfl, ?_⟩
             replace BK376 := ak_ (blk_below (bk_ BK376) hb)
             replace HB := ak_ (below_step hb_ hb)
             (try clear hb)
             (try clear hb2)
             (try clear hk)
             (try clear hi)
             refine hK.out _ _ ⟨(blk_cell BK376.out 0).trans rfl, (blk_cell BK376.out 1).trans rfl, (blk_cell BK376.out 2).trans rfl, (blk_cell BK376.out 3).trans rfl, (blk_cell BK376.out 4).trans rfl, (blk_cell BK376.out 5).trans rfl, (blk_cell BK376.out 6).trans rfl, (blk_cell BK376.out 7).trans rfl, (blk_cell BK376.out 8).trans rfl, (blk_cell BK376.out 9).trans rfl, (blk_cell BK376.out 10).trans rfl, (blk_cell BK376.out 11).trans rfl⟩ (fun hHeld => ?_)
             clear hK K
             refine norm_ (a' := ?_) ?_ ?_
             rotate_left
             ·show Act.put _ (some 47) _ = _
              simp only [Act.put, List.setIfInBounds_toArray, List.set_cons_zero, List.set_cons_succ, i64_w, i32_w]
              rfl
             refine one_ (i := 9) (N := some 48) #[true, true, true, true, true, true, true, true, true, true, false, false, false, false] rfl rfl (one_of HT_.out (by kernel_rfl)) (by decide) (fun K hK => ?_)
             refine Kd.R_lit_step Kd.string _ 9 ?hg (N := 48) ?hd (xs := ([(⟨#[99, 111, 117, 110, 116]⟩ : ByteArray), t388, t389] : List ByteArray)) (inner := [.string (⟨#[99, 111, 117, 110, 116]⟩ : ByteArray), .string t388, .string t389]) (ok := fun _ => True) (okp := fun _ => True) ?hr ?hp (fun _ hk => hk) trivial (Below.refl _ _) (Nat.le_refl _) (by simp) ?_; (case hd => rfl); (case hg => rfl); (case hr => first | (go_simp; done) | (go_simp; rfl)); (case hp => exact (Reps.one (show Kd.M Kd.string _ _ _ (⟨#[99, 111, 117, 110, 116]⟩ : ByteArray) [.string (⟨#[99, 111, 117, 110, 116]⟩ : ByteArray)] from rfl) (Reps.one (show Kd.M Kd.string _ _ _ t388 [.string t388] from rfl) (Reps.one (show Kd.M Kd.string _ _ _ t389 [.string t389] from rfl) (Reps.none _ _)))))
             intro v391 w47 ho48 hb hg_ hnew_
             clear hg_ hnew_
             (first | rw [← Ny390.out] at ho48 | (simp only [Int.reduceToNat] at ho48; rw [← Ny390.out] at ho48))
             have HO392 := ak_ (Kd.R_lower ho48 (below_size hb_))
             replace BK376 := ak_ (blk_below (bk_ BK376) hb)
             replace HB := ak_ (below_step hb_ hb)
             clear hb ho48
             obtain ⟨Ao49, co49, eo49⟩ := Kd.R_slice HO392.out
             (first | subst eo49 | (injection eo49 with f1_ f2_ f3_; have f4_ := f1_.symm; have f5_ := f3_.symm; clear f1_ f2_ f3_; subst f4_; subst f5_))
             refine hK.out _ _ ⟨(blk_cell BK376.out 0).trans rfl, (blk_cell BK376.out 1).trans rfl, (blk_cell BK376.out 2).trans rfl, (blk_cell BK376.out 3).trans rfl, (blk_cell BK376.out 4).trans rfl, (blk_cell BK376.out 5).trans rfl, (blk_cell BK376.out 6).trans rfl, (blk_cell BK376.out 7).trans rfl, (blk_cell BK376.out 8).trans rfl, (blk_cell BK376.out 9).trans rfl, (blk_cell BK376.out 10).trans rfl, (blk_cell BK376.out 11).trans rfl⟩ (fun hHeld => ?_)
             clear hK K
             refine norm_ (a' := ?_) ?_ ?_
             rotate_left
             ·show Act.put _ (some 48) _ = _
              simp only [Act.put, List.setIfInBounds_toArray, List.set_cons_zero, List.set_cons_succ, i64_w, i32_w]
              rfl
             refine one_ (i := 10) (N := some 49) #[true, true, true, true, true, true, true, true, true, true, true, false, false, false] rfl rfl (one_of HT_.out (by kernel_rfl)) (by decide) (fun K hK => ?_)
             refine goes_ Tryd.func26 (by kernel_rfl) rfl #[.slice Ao49 y390.length co49] (by rfl) rfl rfl (ma1_ rfl) ?_
             with_reducible refine (impl_words.calls _ _ y390 t393 _ ?side1 ?side2 A34.out).mono ?_
             (case side1 => repeat (first | exact (Kd.R_reads' HO392.out).2.2 | (with_reducible refine Kd.C_alloc ?_ _) | (with_reducible refine Kd.C_drewN ?_ _) | (with_reducible refine Kd.C_drew ?_)))
             (case side2 => exact (Kd.R_reads' HO392.out).2.1)
             rintro e w50 ⟨rfl, hb⟩
             refine ⟨_, rfl, ?_⟩
             replace HO392 := ak_ (Kd.R_below (by (with_reducible repeat (first | apply Kd.R_alloc | apply Kd.R_drewN | apply Kd.R_drew)); exact HO392.out) hb)
             replace BK376 := ak_ (blk_below (bk_ BK376) hb)
             replace HB := ak_ (below_step hb_ hb)
             (try clear hb)
             (try clear hb2)
             (try clear hk)
             (try clear hi)
             refine hK.out _ _ ⟨(blk_cell BK376.out 0).trans rfl, (blk_cell BK376.out 1).trans rfl, (blk_cell BK376.out 2).trans rfl, (blk_cell BK376.out 3).trans rfl, (blk_cell BK376.out 4).trans rfl, (blk_cell BK376.out 5).trans rfl, (blk_cell BK376.out 6).trans rfl, (blk_cell BK376.out 7).trans rfl, (blk_cell BK376.out 8).trans rfl, (blk_cell BK376.out 9).trans rfl, (blk_cell BK376.out 10).trans rfl, (blk_cell BK376.out 11).trans rfl⟩ (fun hHeld => ?_)
             clear hK K
             refine norm_ (a' := ?_) ?_ ?_
             rotate_left
             ·show Act.put _ (some 49) _ = _
              simp only [Act.put, List.setIfInBounds_toArray, List.set_cons_zero, List.set_cons_succ, i64_w, i32_w]
              rfl
             refine pure_ (i := 11) (N := some 50) (v := ?_) (a' := ?_) #[true, true, true, true, true, true, true, true, true, true, true, true, false, false] rfl rfl (any_of HT_.out (by kernel_rfl)) (fun _ _ _ h => h) (Or.inl ⟨by rfl, ?_⟩) ?_ ?_; rotate_left; (intro w'; go_simp; with_reducible rfl); rotate_left; (simp only [Act.put, List.setIfInBounds_toArray, List.set_cons_zero, List.set_cons_succ, i64_w, i32_w]; rfl)
             refine pure_ (i := 12) (N := some 51) (v := ?_) (a' := ?_) #[true, true, true, true, true, true, true, true, true, true, true, true, true, false] rfl rfl (any_of HT_.out (by kernel_rfl)) (fun _ _ _ h => h) (Or.inl ⟨by rfl, ?_⟩) ?_ ?_; rotate_left; (intro w'; go_simp; with_reducible rfl); rotate_left; (simp only [Act.put, List.setIfInBounds_toArray, List.set_cons_zero, List.set_cons_succ, i64_w, i32_w]; rfl)
             refine pure_ (i := 13) (N := some 4) (v := ?_) (a' := ?_) #[true, true, true, true, true, true, true, true, true, true, true, true, true, true] rfl rfl (any_of HT_.out (by kernel_rfl)) (fun _ _ _ h => h) (Or.inl ⟨by rfl, ?_⟩) ?_ ?_; rotate_left; (intro w'; go_simp; with_reducible rfl); rotate_left; (simp only [Act.put, List.setIfInBounds_toArray, List.set_cons_zero, List.set_cons_succ, i64_w, i32_w]; rfl)
             refine done_ (done_of HT_.out (by kernel_rfl)) ?_
             try go_wp2
             replace HO392 := ak_ (Kd.R_drew HO392.out)
             replace BK376 := ak_ (blk_drew BK376.out)
             replace HB := ak_ (below_drew1 HB.out)
             refine start_ (n := 16) (S := fun w' => w'.cell? ⟨gb376, 0, none⟩ = some (.int .i64 a0_0) ∧ w'.cell? ⟨gb376, 1, none⟩ = some (.int .i64 a0_1) ∧ w'.cell? ⟨gb376, 2, none⟩ = some (.int .i64 a0_2) ∧ w'.cell? ⟨gb376, 3, none⟩ = some (.slice A0_3 l0_3.length c0_3) ∧ w'.cell? ⟨gb376, 4, none⟩ = some (.slice A0_4 l0_4.length c0_4) ∧ w'.cell? ⟨gb376, 5, none⟩ = some (.int .i64 a0_5) ∧ w'.cell? ⟨gb376, 6, none⟩ = some (.int .i64 a0_6) ∧ w'.cell? ⟨gb376, 7, none⟩ = some (.slice A0_7 l0_7.length c0_7) ∧ w'.cell? ⟨gb376, 8, none⟩ = some (.int .i64 a0_8) ∧ w'.cell? ⟨gb376, 9, none⟩ = some (.int .i64 a0_9) ∧ w'.cell? ⟨gb376, 10, none⟩ = some (.int .i64 a0_10) ∧ w'.cell? ⟨gb376, 11, none⟩ = some (.int .i64 a0_11)) (ds := []) impl_SetupText.d0 (by kernel_rfl) rfl rfl ⟨(blk_cell BK376.out 0).trans rfl, (blk_cell BK376.out 1).trans rfl, (blk_cell BK376.out 2).trans rfl, (blk_cell BK376.out 3).trans rfl, (blk_cell BK376.out 4).trans rfl, (blk_cell BK376.out 5).trans rfl, (blk_cell BK376.out 6).trans rfl, (blk_cell BK376.out 7).trans rfl, (blk_cell BK376.out 8).trans rfl, (blk_cell BK376.out 9).trans rfl, (blk_cell BK376.out 10).trans rfl, (blk_cell BK376.out 11).trans rfl⟩ (fun hHeld => ?_); refine with_tabW impl_SetupText.tab10 impl_SetupText.bits10 (fun HT_ HW_ => ?_)
             generalize w50.drew = w51 at HO392 BK376 HB hHeld ⊢
             refine pure_ (i := 0) (N := some 52) (v := ?_) (a' := ?_) impl_SetupText.d1 rfl rfl (any_of HT_.out (by kernel_rfl)) (fun _ _ _ h => h) (Or.inl ⟨by rfl, ?_⟩) ?_ ?_; rotate_left; (intro w'; go_simp; with_reducible rfl); rotate_left; (simp only [Act.put, List.setIfInBounds_toArray, List.set_cons_zero, List.set_cons_succ, i64_w, i32_w]; rfl)
             refine pure_ (i := 1) (N := some 53) (v := ?_) (a' := ?_) impl_SetupText.d2 rfl rfl (any_of HT_.out (by kernel_rfl)) (fun _ _ _ h => h) (Or.inl ⟨by rfl, ?_⟩) ?_ ?_; rotate_left; (intro w'; go_simp; with_reducible rfl); rotate_left; (simp only [Act.put, List.setIfInBounds_toArray, List.set_cons_zero, List.set_cons_succ, i64_w, i32_w]; rfl)
             refine pure_ (i := 2) (N := some 54) (v := ?_) (a' := ?_) #[true, true, true, false, false, false, false, false, false, false, false, false, false, false, false, false] rfl rfl (any_of HT_.out (by kernel_rfl)) (fun _ _ _ h => h) (Or.inl ⟨by rfl, ?_⟩) ?_ ?_; rotate_left; (intro w'; go_simp; with_reducible rfl); rotate_left; (simp only [Act.put, List.setIfInBounds_toArray, List.set_cons_zero, List.set_cons_succ, i64_w, i32_w]; rfl)
             refine pure_ (i := 3) (N := some 55) (v := ?_) (a' := ?_) #[true, true, true, true, false, false, false, false, false, false, false, false, false, false, false, false] rfl rfl (any_of HT_.out (by kernel_rfl)) (fun _ _ _ h => h) (Or.inl ⟨by rfl, ?_⟩) ?_ ?_; rotate_left; (intro w'; go_simp; with_reducible rfl); rotate_left; (simp only [Act.put, List.setIfInBounds_toArray, List.set_cons_zero, List.set_cons_succ, i64_w, i32_w]; rfl)
             refine pure_ (i := 8) (N := some 60) (v := ?_) (a' := ?_) #[true, true, true, true, false, false, false, false, true, false, false, false, false, false, false, false] rfl rfl (any_of HT_.out (by kernel_rfl)) (fun _ _ _ h => h) (Or.inl ⟨by rfl, ?_⟩) ?_ ?_; rotate_left; (intro w'; go_simp; with_reducible rfl); rotate_left; (simp only [Act.put, List.setIfInBounds_toArray, List.set_cons_zero, List.set_cons_succ, i64_w, i32_w]; rfl)
             refine pure_ (i := 9) (N := some 61) (v := ?_) (a' := ?_) #[true, true, true, true, false, false, false, false, true, true, false, false, false, false, false, false] rfl rfl (any_of HT_.out (by kernel_rfl)) (fun _ _ _ h => h) (Or.inl ⟨by rfl, ?_⟩) ?_ ?_; rotate_left; (intro w'; go_simp; with_reducible rfl); rotate_left; (simp only [Act.put, List.setIfInBounds_toArray, List.set_cons_zero, List.set_cons_succ, i64_w, i32_w]; rfl)
             refine take_ (i := 4) (N := some 56) (v := ?_) (a' := ?_) #[true, true, true, true, true, false, false, false, true, true, false, false, false, false, false, false] rfl rfl (take_ofW HT_.out HW_.out (by kernel_rfl)) (fun _ _ _ h => h) (Or.inl ⟨by rfl, ?_⟩) hHeld ?_ ?_; rotate_left; (rintro w' ⟨s0, s1, s2, s3, s4, s5, s6, s7, s8, s9, s10, s11⟩; go_simp; with_reducible rfl); rotate_left; (simp only [Act.put, List.setIfInBounds_toArray, List.set_cons_zero, List.set_cons_succ, i64_w, i32_w]; rfl)
             refine take_ (i := 10) (N := some 62) (v := ?_) (a' := ?_) #[true, true, true, true, true, false, false, false, true, true, true, false, false, false, false, false] rfl rfl (take_ofW HT_.out HW_.out (by kernel_rfl)) (fun _ _ _ h => h) (Or.inl ⟨by rfl, ?_⟩) hHeld ?_ ?_; rotate_left; (rintro w' ⟨s0, s1, s2, s3, s4, s5, s6, s7, s8, s9, s10, s11⟩; go_simp; with_reducible rfl); rotate_left; (simp only [Act.put, List.setIfInBounds_toArray, List.set_cons_zero, List.set_cons_succ, i64_w, i32_w]; rfl)
             refine one_ (i := 5) (N := some 57) #[true, true, true, true, true, true, false, false, true, true, true, false, false, false, false, false] rfl rfl (one_of HT_.out (by kernel_rfl)) (by decide) (fun K hK => ?_)
             refine goes_ Tryd.func13 (by kernel_rfl) rfl #[.agg #[.slice A0_4 l0_4.length c0_4, .int .i64 a0_5, .int .i64 a0_6]] (by rfl) rfl rfl (ma1_ rfl) ?_
             with_reducible refine (impl_SideText.calls k1 _ _ l0_4 a0_5 a0_6 t394 _ ?side1 ?side2 ?sideL A38.out).mono ?_
             (case sideL => refine lay_at HLAY.out ?_; repeat (first | (with_reducible first | exact HB.out | apply below_alloc | apply pw_below_drewN | apply below_drew1 | refine below_set ?_ GE376.out) | exact HB.out))
             (case side1 => exact kc_ HR0_4)
             (case side2 => exact HC0_4.out)
             rintro e w52 ⟨rfl, hb⟩
             refine ⟨_, rfl, ?_⟩
             replace HO392 := ak_ (Kd.R_below (by (with_reducible repeat (first | apply Kd.R_alloc | apply Kd.R_drewN | apply Kd.R_drew)); exact HO392.out) hb)
             replace BK376 := ak_ (blk_below (bk_ BK376) hb)
             replace HB := ak_ (below_step hb_ hb)
             (try clear hb)
             (try clear hb2)
             (try clear hk)
             (try clear hi)
             refine hK.out _ _ ⟨(blk_cell BK376.out 0).trans rfl, (blk_cell BK376.out 1).trans rfl, (blk_cell BK376.out 2).trans rfl, (blk_cell BK376.out 3).trans rfl, (blk_cell BK376.out 4).trans rfl, (blk_cell BK376.out 5).trans rfl, (blk_cell BK376.out 6).trans rfl, (blk_cell BK376.out 7).trans rfl, (blk_cell BK376.out 8).trans rfl, (blk_cell BK376.out 9).trans rfl, (blk_cell BK376.out 10).trans rfl, (blk_cell BK376.out 11).trans rfl⟩ (fun hHeld => ?_)
             clear hK K
             refine norm_ (a' := ?_) ?_ ?_
             rotate_left
             ·show Act.put _ (some 57) _ = _
              simp only [Act.put, List.setIfInBounds_toArray, List.set_cons_zero, List.set_cons_succ, i64_w, i32_w]
              rfl
             refine pure_ (i := 6) (N := some 58) (v := ?_) (a' := ?_) impl_SetupText.d3 rfl rfl (any_of HT_.out (by kernel_rfl)) (fun _ _ _ h => h) (Or.inl ⟨by rfl, ?_⟩) ?_ ?_; rotate_left; (intro w'; go_simp; with_reducible rfl); rotate_left; (simp only [Act.put, List.setIfInBounds_toArray, List.set_cons_zero, List.set_cons_succ, i64_w, i32_w]; rfl)
             refine pure_ (i := 7) (N := some 59) (v := ?_) (a' := ?_) impl_SetupText.d4 rfl rfl (any_of HT_.out (by kernel_rfl)) (fun _ _ _ h => h) (Or.inl ⟨by rfl, ?_⟩) ?_ ?_; rotate_left; (intro w'; go_simp; with_reducible rfl); rotate_left; (simp only [Act.put, List.setIfInBounds_toArray, List.set_cons_zero, List.set_cons_succ, i64_w, i32_w]; rfl)
             refine one_ (i := 11) (N := some 63) impl_SetupText.d5 rfl rfl (one_of HT_.out (by kernel_rfl)) (by decide) (fun K hK => ?_)
             refine goes_ Tryd.func13 (by kernel_rfl) rfl #[.agg #[.slice A0_7 l0_7.length c0_7, .int .i64 a0_8, .int .i64 a0_9]] (by rfl) rfl rfl (ma1_ rfl) ?_
             with_reducible refine (impl_SideText.calls k1 _ _ l0_7 a0_8 a0_9 t395 _ ?side1 ?side2 ?sideL A41.out).mono ?_
             (case sideL => refine lay_at HLAY.out ?_; repeat (first | (with_reducible first | exact HB.out | apply below_alloc | apply pw_below_drewN | apply below_drew1 | refine below_set ?_ GE376.out) | exact HB.out))
             (case side1 => exact kc_ HR0_7)
             (case side2 => exact HC0_7.out)
             rintro e w53 ⟨rfl, hb⟩
             refine ⟨_, rfl, ?_⟩
             replace HO392 := ak_ (Kd.R_below (by (with_reducible repeat (first | apply Kd.R_alloc | apply Kd.R_drewN | apply Kd.R_drew)); exact HO392.out) hb)
             replace BK376 := ak_ (blk_below (bk_ BK376) hb)
             replace HB := ak_ (below_step hb_ hb)
             (try clear hb)
             (try clear hb2)
             (try clear hk)
             (try clear hi)
             refine hK.out _ _ ⟨(blk_cell BK376.out 0).trans rfl, (blk_cell BK376.out 1).trans rfl, (blk_cell BK376.out 2).trans rfl, (blk_cell BK376.out 3).trans rfl, (blk_cell BK376.out 4).trans rfl, (blk_cell BK376.out 5).trans rfl, (blk_cell BK376.out 6).trans rfl, (blk_cell BK376.out 7).trans rfl, (blk_cell BK376.out 8).trans rfl, (blk_cell BK376.out 9).trans rfl, (blk_cell BK376.out 10).trans rfl, (blk_cell BK376.out 11).trans rfl⟩ (fun hHeld => ?_)
             clear hK K
             refine norm_ (a' := ?_) ?_ ?_
             rotate_left
             ·show Act.put _ (some 63) _ = _
              simp only [Act.put, List.setIfInBounds_toArray, List.set_cons_zero, List.set_cons_succ, i64_w, i32_w]
              rfl
             refine pure_ (i := 12) (N := some 64) (v := ?_) (a' := ?_) impl_SetupText.d6 rfl rfl (any_of HT_.out (by kernel_rfl)) (fun _ _ _ h => h) (Or.inl ⟨by rfl, ?_⟩) ?_ ?_; rotate_left; (intro w'; go_simp; with_reducible rfl); rotate_left; (simp only [Act.put, List.setIfInBounds_toArray, List.set_cons_zero, List.set_cons_succ, i64_w, i32_w]; rfl)
             refine pure_ (i := 13) (N := some 65) (v := ?_) (a' := ?_) impl_SetupText.d7 rfl rfl (any_of HT_.out (by kernel_rfl)) (fun _ _ _ h => h) (Or.inl ⟨by rfl, ?_⟩) ?_ ?_; rotate_left; (intro w'; go_simp; with_reducible rfl); rotate_left; (simp only [Act.put, List.setIfInBounds_toArray, List.set_cons_zero, List.set_cons_succ, i64_w, i32_w]; rfl)
             refine pure_ (i := 14) (N := some 2) (v := ?_) (a' := ?_) impl_SetupText.d8 rfl rfl (any_of HT_.out (by kernel_rfl)) (fun _ _ _ h => h) (Or.inl ⟨by rfl, ?_⟩) ?_ ?_; rotate_left; (intro w'; go_simp; with_reducible rfl); rotate_left; (simp only [Act.put, List.setIfInBounds_toArray, List.set_cons_zero, List.set_cons_succ, i64_w, i32_w]; rfl)
             refine pure_ (i := 15) (N := some 3) (v := ?_) (a' := ?_) impl_SetupText.d9 rfl rfl (any_of HT_.out (by kernel_rfl)) (fun _ _ _ h => h) (Or.inl ⟨by rfl, ?_⟩) ?_ ?_; rotate_left; (intro w'; go_simp; with_reducible rfl); rotate_left; (simp only [Act.put, List.setIfInBounds_toArray, List.set_cons_zero, List.set_cons_succ, i64_w, i32_w]; rfl)
             refine done_ (done_of HT_.out (by kernel_rfl)) ?_
             try go_wp2
             go_ret2
             exact ⟨ew_, hb_⟩
            ·rw [if_neg c43] at H
             exact absurd H (by simp)
           ·rw [if_neg c42] at H
            exact absurd H (by simp)
          ·rw [if_neg c40] at H
           exact absurd H (by simp)
         ·rw [if_neg c39] at H
          exact absurd H (by simp)
        ·rw [if_neg c37] at H
         exact absurd H (by simp)
       ·rw [if_neg c36] at H
        exact absurd H (by simp)
      ·rw [if_neg c35] at H
       exact absurd H (by simp)
  ·rw [if_neg c8] at H
   exact absurd H (by simp)
 ·replace c3 := Bool.eq_false_iff.mpr c3
  subst c3
  rw [if_neg (show ¬ (false = true) by decide)] at H
  simp only [Option.some.injEq, Prod.mk.injEq] at H
  obtain ⟨rfl, rfl⟩ := H
  go_enter Tryd.func18, Tryd.ntmps18
  go_wp2_with (first | ((with_reducible refine gate_dst (N := 1) rfl ?_); refine be_ (N := 1) (cs := #[.int .i64 a0_0, .int .i64 a0_1, .int .i64 a0_2, .slice A0_3 l0_3.length c0_3, .slice A0_4 l0_4.length c0_4, .int .i64 a0_5, .int .i64 a0_6, .slice A0_7 l0_7.length c0_7, .int .i64 a0_8, .int .i64 a0_9, .int .i64 a0_10, .int .i64 a0_11]) (t := 54) ?_; intro gb376 hg w54 hbox hb; have BK376 := ak_ hbox; have GW376 := ak_ ((gs_ hg : w.heap.size ≤ gb376)); have GE376 := ak_ ((gs_ hg : w.heap.size ≤ gb376)); replace HB := ak_ (below_step hb_ hb); clear hb hbox hg; obtain ⟨hcz55_0, hcz55_1, hcz55_2, hcz55_3, hcz55_4, hcz55_5, hcz55_6, hcz55_7, hcz55_8, hcz55_9, hcz55_10, hcz55_11, hfz55_0, hfz55_1, hfz55_2, hfz55_3, hfz55_4, hfz55_5, hfz55_6, hfz55_7, hfz55_8, hfz55_9, hfz55_10, hfz55_11⟩ := bc12_ BK376.out) | ((with_reducible refine gate_callee (f := 39) rfl ?_); refine goesL_ (some 8) rfl rfl Tryd.func39 (by kernel_rfl) rfl #[.agg #[.int .i64 a0_0, .int .i64 a0_1, .int .i64 a0_2, .slice A0_3 l0_3.length c0_3, .slice A0_4 l0_4.length c0_4, .int .i64 a0_5, .int .i64 a0_6, .slice A0_7 l0_7.length c0_7, .int .i64 a0_8, .int .i64 a0_9, .int .i64 a0_10, .int .i64 a0_11]] rfl (ma1_ rfl) ?_; (with_reducible refine (impl_SetupOk.calls k a0_0 a0_1 a0_2 _ _ l0_3 _ _ l0_4 a0_5 a0_6 _ _ l0_7 a0_8 a0_9 a0_10 a0_11 false _ ?side1 ?side2 ?side3 ?side4 ?side5 ?side6 A2.out).mono ?_); (case side1 => exact kc_ HR0_3); (case side2 => exact HC0_3.out); (case side3 => exact kc_ HR0_4); (case side4 => exact HC0_4.out); (case side5 => exact kc_ HR0_7); (case side6 => exact HC0_7.out); rintro e w56 ⟨rfl, hb⟩; refine ⟨_, rfl, ?_⟩; replace BK376 := ak_ (blk_below (bk_ BK376) hb); replace HB := ak_ (below_step hb_ hb); (try clear hb)))
  go_ret2
  exact ⟨ew_, hb_⟩

end Go.Proofs.YtblfoelddakelaaDoor.U
