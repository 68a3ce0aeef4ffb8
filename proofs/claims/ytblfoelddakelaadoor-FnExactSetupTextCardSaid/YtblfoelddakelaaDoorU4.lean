-- PRINTED by print.py (a twelfth state) out of the translation. Not trusted: Lean checks it.
import Derived.Test.YtblfoelddakelaaDoorU0
import Derived.Test.YtblfoelddakelaaDoorU3
namespace Go.Proofs.YtblfoelddakelaaDoor.U
open Go.RowKit Go.Proofs.YtblfoelddakelaaDoorW.PrintWords Go.Proofs.YtblfoelddakelaaDoorW.PrintLast Go.Proofs.YtblfoelddakelaaDoorW.PrintMore
attribute [local go_sem] max2_int min2_int max_two min_two max_three min_three max_four min_four   -- for this text's walks alone
set_option linter.unusedVariables false
set_option linter.unusedSimpArgs false

/-! ### impl_EventText: function 9 -/
def impl_EventText.f (a0_0 : Int) (a0_1 : Int) (a0_2 : Int) (a0_3 : Int) : Option (ByteArray) := (impl_number.f a0_1).bind fun t117 => (if t117.size + 2 ≤ 9223372036854775807 then ((impl_number.f a0_2).bind fun t118 => ((impl_number.f a0_3).bind fun t119 => (if a0_0 = 0 then ((impl_words.f (([(⟨#[115, 99, 114, 97, 112, 101, 100]⟩ : ByteArray), t118, (⟨#[98, 97, 100]⟩ : ByteArray), t119] : List ByteArray))).bind fun t123 => (if (t117 ++ (⟨#[58, 32]⟩ : ByteArray)).size + t123.size ≤ 9223372036854775807 then (some ((t117 ++ (⟨#[58, 32]⟩ : ByteArray)) ++ t123)) else (none))) else (if a0_0 = 1 then ((impl_words.f (([(⟨#[109, 111, 118, 101, 100]⟩ : ByteArray), t118, (⟨#[116, 111]⟩ : ByteArray), t119] : List ByteArray))).bind fun t127 => (if (t117 ++ (⟨#[58, 32]⟩ : ByteArray)).size + t127.size ≤ 9223372036854775807 then (some ((t117 ++ (⟨#[58, 32]⟩ : ByteArray)) ++ t127)) else (none))) else (if a0_0 = 2 then ((impl_words.f (([(⟨#[102, 97, 105, 108, 101, 100]⟩ : ByteArray), t118, (⟨#[116, 111]⟩ : ByteArray), t119] : List ByteArray))).bind fun t131 => (if (t117 ++ (⟨#[58, 32]⟩ : ByteArray)).size + t131.size ≤ 9223372036854775807 then (some ((t117 ++ (⟨#[58, 32]⟩ : ByteArray)) ++ t131)) else (none))) else (if a0_0 = 3 then (if (t117 ++ (⟨#[58, 32]⟩ : ByteArray)).size + 7 ≤ 9223372036854775807 then (some ((t117 ++ (⟨#[58, 32]⟩ : ByteArray)) ++ (⟨#[114, 101, 115, 116, 97, 114, 116]⟩ : ByteArray))) else (none)) else (if a0_0 = 4 then ((impl_words.f (([(⟨#[104, 97, 110, 100, 115]⟩ : ByteArray), t118, (⟨#[116, 111]⟩ : ByteArray), t119] : List ByteArray))).bind fun t135 => (if (t117 ++ (⟨#[58, 32]⟩ : ByteArray)).size + t135.size ≤ 9223372036854775807 then (some ((t117 ++ (⟨#[58, 32]⟩ : ByteArray)) ++ t135)) else (none))) else (some (⟨#[]⟩ : ByteArray))))))))) else (none))
def impl_EventText.T1 : Bool × List (List Nat × List Nat) := (true, [([], []), ([0], [0]), ([1], [1]), ([2], [2]), ([], []), ([4], [4]), ([5, 2], [5]), ([], []), ([7], [7]), ([8, 6], [8]), ([3, 9, 0, 1, 2, 3], [3]), ([6, 10, 0, 1, 2, 3, 4, 5, 6, 10], [6]), ([9, 11, 0, 1, 2, 3, 4, 5, 6, 7, 8, 9, 10, 11], [9])])
def impl_EventText.B1 : List Nat := [0, 1, 3, 7, 0, 16, 55, 0, 128, 503, 1023, 2047, 4095]
theorem impl_EventText.tab1 : rtab .any (opsOf Tryd.f9 1) = impl_EventText.T1 := by kernel_rfl
theorem impl_EventText.bits1 : waitsOk impl_EventText.T1.2 impl_EventText.B1 = true := by kernel_rfl
abbrev impl_EventText.d0 : Array Bool := #[false, false, false, false, false, false, false, false, false, false, false, false, false]
abbrev impl_EventText.d1 : Array Bool := #[true, false, false, false, false, false, false, false, false, false, false, false, false]
abbrev impl_EventText.d2 : Array Bool := #[true, false, false, false, true, false, false, false, false, false, false, false, false]
abbrev impl_EventText.d3 : Array Bool := #[true, false, false, false, true, false, false, true, false, false, false, false, false]
abbrev impl_EventText.d4 : Array Bool := #[true, true, false, false, true, false, false, true, false, false, false, false, false]
abbrev impl_EventText.d5 : Array Bool := #[true, true, false, false, true, true, false, true, false, false, false, false, false]
abbrev impl_EventText.d6 : Array Bool := #[true, true, false, false, true, true, false, true, true, false, false, false, false]
abbrev impl_EventText.d7 : Array Bool := #[true, true, true, false, true, true, false, true, true, false, false, false, false]
abbrev impl_EventText.d8 : Array Bool := #[true, true, true, true, true, true, false, true, true, false, false, false, false]
abbrev impl_EventText.d9 : Array Bool := #[true, true, true, true, true, true, true, true, true, false, false, false, false]
abbrev impl_EventText.d10 : Array Bool := #[true, true, true, true, true, true, true, true, true, true, false, false, false]
abbrev impl_EventText.d11 : Array Bool := #[true, true, true, true, true, true, true, true, true, true, true, false, false]
abbrev impl_EventText.d12 : Array Bool := #[true, true, true, true, true, true, true, true, true, true, true, true, false]
abbrev impl_EventText.d13 : Array Bool := #[true, true, true, true, true, true, true, true, true, true, true, true, true]
set_option maxHeartbeats 8000000 in
set_option maxRecDepth 100000 in
theorem impl_EventText.calls (a0_0 : Int) (a0_1 : Int) (a0_2 : Int) (a0_3 : Int) (r : ByteArray) (w : World) (hL : Lay w) (h : impl_EventText.f a0_0 a0_1 a0_2 a0_3 = some r) :
  Calls Tryd.prog 9 #[.agg #[.int .i64 a0_0, .int .i64 a0_1, .int .i64 a0_2, .int .i64 a0_3]] w fun e w' => e = .returned (.string r) ∧ Below w.heap.size w w' := by
 have HLAY := Aside0.mk hL
 clear hL
 have hu25 := Tryd.underlying25
 have HB := Aside0.mk (Below.refl w.heap.size w)
 have H : ((impl_number.f a0_1).bind fun t117 => (if t117.size + 2 ≤ 9223372036854775807 then ((impl_number.f a0_2).bind fun t118 => ((impl_number.f a0_3).bind fun t119 => (if a0_0 = 0 then ((impl_words.f (([(⟨#[115, 99, 114, 97, 112, 101, 100]⟩ : ByteArray), t118, (⟨#[98, 97, 100]⟩ : ByteArray), t119] : List ByteArray))).bind fun t123 => (if (t117 ++ (⟨#[58, 32]⟩ : ByteArray)).size + t123.size ≤ 9223372036854775807 then (some ((t117 ++ (⟨#[58, 32]⟩ : ByteArray)) ++ t123)) else (none))) else (if a0_0 = 1 then ((impl_words.f (([(⟨#[109, 111, 118, 101, 100]⟩ : ByteArray), t118, (⟨#[116, 111]⟩ : ByteArray), t119] : List ByteArray))).bind fun t127 => (if (t117 ++ (⟨#[58, 32]⟩ : ByteArray)).size + t127.size ≤ 9223372036854775807 then (some ((t117 ++ (⟨#[58, 32]⟩ : ByteArray)) ++ t127)) else (none))) else (if a0_0 = 2 then ((impl_words.f (([(⟨#[102, 97, 105, 108, 101, 100]⟩ : ByteArray), t118, (⟨#[116, 111]⟩ : ByteArray), t119] : List ByteArray))).bind fun t131 => (if (t117 ++ (⟨#[58, 32]⟩ : ByteArray)).size + t131.size ≤ 9223372036854775807 then (some ((t117 ++ (⟨#[58, 32]⟩ : ByteArray)) ++ t131)) else (none))) else (if a0_0 = 3 then (if (t117 ++ (⟨#[58, 32]⟩ : ByteArray)).size + 7 ≤ 9223372036854775807 then (some ((t117 ++ (⟨#[58, 32]⟩ : ByteArray)) ++ (⟨#[114, 101, 115, 116, 97, 114, 116]⟩ : ByteArray))) else (none)) else (if a0_0 = 4 then ((impl_words.f (([(⟨#[104, 97, 110, 100, 115]⟩ : ByteArray), t118, (⟨#[116, 111]⟩ : ByteArray), t119] : List ByteArray))).bind fun t135 => (if (t117 ++ (⟨#[58, 32]⟩ : ByteArray)).size + t135.size ≤ 9223372036854775807 then (some ((t117 ++ (⟨#[58, 32]⟩ : ByteArray)) ++ t135)) else (none))) else (some (⟨#[]⟩ : ByteArray))))))))) else (none))) = some r := h
 clear h
 replace H := Option.bind_eq_some_iff.mp H
 obtain ⟨t117, A20, H⟩ := H
 replace H : (if t117.size + 2 ≤ 9223372036854775807 then ((impl_number.f a0_2).bind fun t118 => ((impl_number.f a0_3).bind fun t119 => (if a0_0 = 0 then ((impl_words.f (([(⟨#[115, 99, 114, 97, 112, 101, 100]⟩ : ByteArray), t118, (⟨#[98, 97, 100]⟩ : ByteArray), t119] : List ByteArray))).bind fun t123 => (if (t117 ++ (⟨#[58, 32]⟩ : ByteArray)).size + t123.size ≤ 9223372036854775807 then (some ((t117 ++ (⟨#[58, 32]⟩ : ByteArray)) ++ t123)) else (none))) else (if a0_0 = 1 then ((impl_words.f (([(⟨#[109, 111, 118, 101, 100]⟩ : ByteArray), t118, (⟨#[116, 111]⟩ : ByteArray), t119] : List ByteArray))).bind fun t127 => (if (t117 ++ (⟨#[58, 32]⟩ : ByteArray)).size + t127.size ≤ 9223372036854775807 then (some ((t117 ++ (⟨#[58, 32]⟩ : ByteArray)) ++ t127)) else (none))) else (if a0_0 = 2 then ((impl_words.f (([(⟨#[102, 97, 105, 108, 101, 100]⟩ : ByteArray), t118, (⟨#[116, 111]⟩ : ByteArray), t119] : List ByteArray))).bind fun t131 => (if (t117 ++ (⟨#[58, 32]⟩ : ByteArray)).size + t131.size ≤ 9223372036854775807 then (some ((t117 ++ (⟨#[58, 32]⟩ : ByteArray)) ++ t131)) else (none))) else (if a0_0 = 3 then (if (t117 ++ (⟨#[58, 32]⟩ : ByteArray)).size + 7 ≤ 9223372036854775807 then (some ((t117 ++ (⟨#[58, 32]⟩ : ByteArray)) ++ (⟨#[114, 101, 115, 116, 97, 114, 116]⟩ : ByteArray))) else (none)) else (if a0_0 = 4 then ((impl_words.f (([(⟨#[104, 97, 110, 100, 115]⟩ : ByteArray), t118, (⟨#[116, 111]⟩ : ByteArray), t119] : List ByteArray))).bind fun t135 => (if (t117 ++ (⟨#[58, 32]⟩ : ByteArray)).size + t135.size ≤ 9223372036854775807 then (some ((t117 ++ (⟨#[58, 32]⟩ : ByteArray)) ++ t135)) else (none))) else (some (⟨#[]⟩ : ByteArray))))))))) else (none)) = some r := H
 have A2 := Aside0.mk A20
 clear A20
 by_cases c3 : t117.size + 2 ≤ 9223372036854775807
 ·rw [if_pos c3] at H
  have c3b0 := eq_true c3
  have c3b1 : decide (t117.size + 2 ≤ 9223372036854775807) = true := decide_eq_true c3
  try have c3b2 : (9223372036854775807 < t117.size + 2) = False := eq_false (Nat.not_lt.2 c3)
  replace H := Option.bind_eq_some_iff.mp H
  obtain ⟨t118, A40, H⟩ := H
  replace H : ((impl_number.f a0_3).bind fun t119 => (if a0_0 = 0 then ((impl_words.f (([(⟨#[115, 99, 114, 97, 112, 101, 100]⟩ : ByteArray), t118, (⟨#[98, 97, 100]⟩ : ByteArray), t119] : List ByteArray))).bind fun t123 => (if (t117 ++ (⟨#[58, 32]⟩ : ByteArray)).size + t123.size ≤ 9223372036854775807 then (some ((t117 ++ (⟨#[58, 32]⟩ : ByteArray)) ++ t123)) else (none))) else (if a0_0 = 1 then ((impl_words.f (([(⟨#[109, 111, 118, 101, 100]⟩ : ByteArray), t118, (⟨#[116, 111]⟩ : ByteArray), t119] : List ByteArray))).bind fun t127 => (if (t117 ++ (⟨#[58, 32]⟩ : ByteArray)).size + t127.size ≤ 9223372036854775807 then (some ((t117 ++ (⟨#[58, 32]⟩ : ByteArray)) ++ t127)) else (none))) else (if a0_0 = 2 then ((impl_words.f (([(⟨#[102, 97, 105, 108, 101, 100]⟩ : ByteArray), t118, (⟨#[116, 111]⟩ : ByteArray), t119] : List ByteArray))).bind fun t131 => (if (t117 ++ (⟨#[58, 32]⟩ : ByteArray)).size + t131.size ≤ 9223372036854775807 then (some ((t117 ++ (⟨#[58, 32]⟩ : ByteArray)) ++ t131)) else (none))) else (if a0_0 = 3 then (if (t117 ++ (⟨#[58, 32]⟩ : ByteArray)).size + 7 ≤ 9223372036854775807 then (some ((t117 ++ (⟨#[58, 32]⟩ : ByteArray)) ++ (⟨#[114, 101, 115, 116, 97, 114, 116]⟩ : ByteArray))) else (none)) else (if a0_0 = 4 then ((impl_words.f (([(⟨#[104, 97, 110, 100, 115]⟩ : ByteArray), t118, (⟨#[116, 111]⟩ : ByteArray), t119] : List ByteArray))).bind fun t135 => (if (t117 ++ (⟨#[58, 32]⟩ : ByteArray)).size + t135.size ≤ 9223372036854775807 then (some ((t117 ++ (⟨#[58, 32]⟩ : ByteArray)) ++ t135)) else (none))) else (some (⟨#[]⟩ : ByteArray)))))))) = some r := H
  have A4 := Aside0.mk A40
  clear A40
  replace H := Option.bind_eq_some_iff.mp H
  obtain ⟨t119, A50, H⟩ := H
  replace H : (if a0_0 = 0 then ((impl_words.f (([(⟨#[115, 99, 114, 97, 112, 101, 100]⟩ : ByteArray), t118, (⟨#[98, 97, 100]⟩ : ByteArray), t119] : List ByteArray))).bind fun t123 => (if (t117 ++ (⟨#[58, 32]⟩ : ByteArray)).size + t123.size ≤ 9223372036854775807 then (some ((t117 ++ (⟨#[58, 32]⟩ : ByteArray)) ++ t123)) else (none))) else (if a0_0 = 1 then ((impl_words.f (([(⟨#[109, 111, 118, 101, 100]⟩ : ByteArray), t118, (⟨#[116, 111]⟩ : ByteArray), t119] : List ByteArray))).bind fun t127 => (if (t117 ++ (⟨#[58, 32]⟩ : ByteArray)).size + t127.size ≤ 9223372036854775807 then (some ((t117 ++ (⟨#[58, 32]⟩ : ByteArray)) ++ t127)) else (none))) else (if a0_0 = 2 then ((impl_words.f (([(⟨#[102, 97, 105, 108, 101, 100]⟩ : ByteArray), t118, (⟨#[116, 111]⟩ : ByteArray), t119] : List ByteArray))).bind fun t131 => (if (t117 ++ (⟨#[58, 32]⟩ : ByteArray)).size + t131.size ≤ 9223372036854775807 then (some ((t117 ++ (⟨#[58, 32]⟩ : ByteArray)) ++ t131)) else (none))) else (if a0_0 = 3 then (if (t117 ++ (⟨#[58, 32]⟩ : ByteArray)).size + 7 ≤ 9223372036854775807 then (some ((t117 ++ (⟨#[58, 32]⟩ : ByteArray)) ++ (⟨#[114, 101, 115, 116, 97, 114, 116]⟩ : ByteArray))) else (none)) else (if a0_0 = 4 then ((impl_words.f (([(⟨#[104, 97, 110, 100, 115]⟩ : ByteArray), t118, (⟨#[116, 111]⟩ : ByteArray), t119] : List ByteArray))).bind fun t135 => (if (t117 ++ (⟨#[58, 32]⟩ : ByteArray)).size + t135.size ≤ 9223372036854775807 then (some ((t117 ++ (⟨#[58, 32]⟩ : ByteArray)) ++ t135)) else (none))) else (some (⟨#[]⟩ : ByteArray))))))) = some r := H
  have A5 := Aside0.mk A50
  clear A50
  by_cases c6 : a0_0 = 0
  ·rw [if_pos c6] at H
   have c6b0 : (a0_0 == 0) = true := beq_iff_eq.mpr c6
   have c6b1 : (a0_0 != 0) = false := bne_eq_false_iff_eq.mpr c6
   clear c6
   obtain ⟨y120, hy120⟩ : ∃ y_ : List ByteArray, y_ = (([(⟨#[115, 99, 114, 97, 112, 101, 100]⟩ : ByteArray), t118, (⟨#[98, 97, 100]⟩ : ByteArray), t119] : List ByteArray)) := ⟨_, rfl⟩
   replace H : ((impl_words.f y120).bind fun t123 => (if (t117 ++ (⟨#[58, 32]⟩ : ByteArray)).size + t123.size ≤ 9223372036854775807 then (some ((t117 ++ (⟨#[58, 32]⟩ : ByteArray)) ++ t123)) else (none))) = some r := by first | (rw [hy120]; with_reducible exact H) | (have H2_ := (Option.bind_some _ _).symm.trans H; rw [hy120]; with_reducible exact H2_) | (have H2_ := (Option.bind_some _ _).symm.trans H; with_reducible exact H2_) | with_reducible exact H | (rw [hy120]; exact H) | exact H
   have Ny120 := Aside0.mk hy120
   clear hy120
   replace H := Option.bind_eq_some_iff.mp H
   obtain ⟨t123, A70, H⟩ := H
   replace H : (if (t117 ++ (⟨#[58, 32]⟩ : ByteArray)).size + t123.size ≤ 9223372036854775807 then (some ((t117 ++ (⟨#[58, 32]⟩ : ByteArray)) ++ t123)) else (none)) = some r := H
   have A7 := Aside0.mk A70
   clear A70
   by_cases c8 : (t117 ++ (⟨#[58, 32]⟩ : ByteArray)).size + t123.size ≤ 9223372036854775807
   ·rw [if_pos c8] at H
    have c8n3 := c8
    try simp only [ByteArray.size_append, show (⟨#[58, 32]⟩ : ByteArray).size = 2 from rfl] at c8n3
    try have c8n4 := eq_true c8n3
    try have c8n5 := decide_eq_true c8n3
    try have c8n6 := eq_false (Nat.not_lt.2 c8n3)
    have c8b0 := eq_true c8
    have c8b1 : decide ((t117 ++ (⟨#[58, 32]⟩ : ByteArray)).size + t123.size ≤ 9223372036854775807) = true := decide_eq_true c8
    try have c8b2 : (9223372036854775807 < (t117 ++ (⟨#[58, 32]⟩ : ByteArray)).size + t123.size) = False := eq_false (Nat.not_lt.2 c8)
    obtain rfl := Option.some.inj H
    go_enter Tryd.func9, Tryd.ntmps9
    try go_wp2_with (first | ((with_reducible refine gate_dst (N := 1) rfl ?_); refine be_ (N := 1) (cs := #[.int .i64 a0_0, .int .i64 a0_1, .int .i64 a0_2, .int .i64 a0_3]) (t := 25) ?_; intro gb116 hg w9 hbox hb; have BK116 := ak_ hbox; have GW116 := ak_ ((gs_ hg : w.heap.size ≤ gb116)); have GE116 := ak_ ((gs_ hg : w.heap.size ≤ gb116)); replace HB := ak_ (below_step hb_ hb); clear hb hbox hg))
    replace BK116 := ak_ (blk_drew BK116.out)
    replace HB := ak_ (below_drew1 HB.out)
    refine start_ (n := 13) (S := fun w' => w'.cell? ⟨gb116, 0, none⟩ = some (.int .i64 a0_0) ∧ w'.cell? ⟨gb116, 1, none⟩ = some (.int .i64 a0_1) ∧ w'.cell? ⟨gb116, 2, none⟩ = some (.int .i64 a0_2) ∧ w'.cell? ⟨gb116, 3, none⟩ = some (.int .i64 a0_3)) (ds := []) impl_EventText.d0 (by kernel_rfl) rfl rfl ⟨(blk_cell BK116.out 0).trans rfl, (blk_cell BK116.out 1).trans rfl, (blk_cell BK116.out 2).trans rfl, (blk_cell BK116.out 3).trans rfl⟩ (fun hHeld => ?_); refine with_tabW impl_EventText.tab1 impl_EventText.bits1 (fun HT_ HW_ => ?_)
    generalize w9.drew = w10 at BK116 HB hHeld ⊢
    refine pure_ (i := 0) (N := some 6) (v := ?_) (a' := ?_) impl_EventText.d1 rfl rfl (any_of HT_.out (by kernel_rfl)) (fun _ _ _ h => h) (Or.inl ⟨by rfl, ?_⟩) ?_ ?_; rotate_left; (intro w'; go_simp; with_reducible rfl); rotate_left; (simp only [Act.put, List.setIfInBounds_toArray, List.set_cons_zero, List.set_cons_succ, i64_w, i32_w]; rfl)
    refine pure_ (i := 4) (N := some 10) (v := ?_) (a' := ?_) impl_EventText.d2 rfl rfl (any_of HT_.out (by kernel_rfl)) (fun _ _ _ h => h) (Or.inl ⟨by rfl, ?_⟩) ?_ ?_; rotate_left; (intro w'; go_simp; with_reducible rfl); rotate_left; (simp only [Act.put, List.setIfInBounds_toArray, List.set_cons_zero, List.set_cons_succ, i64_w, i32_w]; rfl)
    refine pure_ (i := 7) (N := some 13) (v := ?_) (a' := ?_) impl_EventText.d3 rfl rfl (any_of HT_.out (by kernel_rfl)) (fun _ _ _ h => h) (Or.inl ⟨by rfl, ?_⟩) ?_ ?_; rotate_left; (intro w'; go_simp; with_reducible rfl); rotate_left; (simp only [Act.put, List.setIfInBounds_toArray, List.set_cons_zero, List.set_cons_succ, i64_w, i32_w]; rfl)
    refine take_ (i := 1) (N := some 7) (v := ?_) (a' := ?_) impl_EventText.d4 rfl rfl (take_ofW HT_.out HW_.out (by kernel_rfl)) (fun _ _ _ h => h) (Or.inl ⟨by rfl, ?_⟩) hHeld ?_ ?_; rotate_left; (rintro w' ⟨s0, s1, s2, s3⟩; go_simp; with_reducible rfl); rotate_left; (simp only [Act.put, List.setIfInBounds_toArray, List.set_cons_zero, List.set_cons_succ, i64_w, i32_w]; rfl)
    refine take_ (i := 5) (N := some 11) (v := ?_) (a' := ?_) impl_EventText.d5 rfl rfl (take_ofW HT_.out HW_.out (by kernel_rfl)) (fun _ _ _ h => h) (Or.inl ⟨by rfl, ?_⟩) hHeld ?_ ?_; rotate_left; (rintro w' ⟨s0, s1, s2, s3⟩; go_simp; with_reducible rfl); rotate_left; (simp only [Act.put, List.setIfInBounds_toArray, List.set_cons_zero, List.set_cons_succ, i64_w, i32_w]; rfl)
    refine take_ (i := 8) (N := some 14) (v := ?_) (a' := ?_) impl_EventText.d6 rfl rfl (take_ofW HT_.out HW_.out (by kernel_rfl)) (fun _ _ _ h => h) (Or.inl ⟨by rfl, ?_⟩) hHeld ?_ ?_; rotate_left; (rintro w' ⟨s0, s1, s2, s3⟩; go_simp; with_reducible rfl); rotate_left; (simp only [Act.put, List.setIfInBounds_toArray, List.set_cons_zero, List.set_cons_succ, i64_w, i32_w]; rfl)
    refine one_ (i := 2) (N := some 8) impl_EventText.d7 rfl rfl (one_of HT_.out (by kernel_rfl)) (by decide) (fun K hK => ?_)
    refine goes_ Tryd.func25 (by kernel_rfl) rfl #[.int .i64 a0_1] (by rfl) rfl rfl (ma1_ rfl) ?_
    with_reducible refine (impl_number.calls a0_1 t117 _ ?sideL A2.out).mono ?_
    (case sideL => refine lay_at HLAY.out ?_; repeat (first | (with_reducible first | exact HB.out | apply below_alloc | apply pw_below_drewN | apply below_drew1 | refine below_set ?_ GE116.out) | exact HB.out))
    rintro e w11 ⟨rfl, hb⟩
    refine ⟨_, rfl, ?_⟩
    replace BK116 := ak_ (blk_below (bk_ BK116) hb)
    replace HB := ak_ (below_step hb_ hb)
    (try clear hb)
    (try clear hb2)
    (try clear hk)
    (try clear hi)
    refine hK.out _ _ ⟨(blk_cell BK116.out 0).trans rfl, (blk_cell BK116.out 1).trans rfl, (blk_cell BK116.out 2).trans rfl, (blk_cell BK116.out 3).trans rfl⟩ (fun hHeld => ?_)
    clear hK K
    refine norm_ (a' := ?_) ?_ ?_
    rotate_left
    ·show Act.put _ (some 8) _ = _
     simp only [Act.put, List.setIfInBounds_toArray, List.set_cons_zero, List.set_cons_succ, i64_w, i32_w]
     rfl
    refine pure_ (i := 3) (N := some 9) (v := ?_) (a' := ?_) impl_EventText.d8 rfl rfl (any_of HT_.out (by kernel_rfl)) (fun _ _ _ h => h) (Or.inl ⟨by rfl, ?_⟩) ?_ ?_; rotate_left; (intro w'; go_simp; with_reducible rfl); rotate_left; (simp only [Act.put, List.setIfInBounds_toArray, List.set_cons_zero, List.set_cons_succ, i64_w, i32_w]; rfl)
    refine one_ (i := 6) (N := some 12) impl_EventText.d9 rfl rfl (one_of HT_.out (by kernel_rfl)) (by decide) (fun K hK => ?_)
    refine goes_ Tryd.func25 (by kernel_rfl) rfl #[.int .i64 a0_2] (by rfl) rfl rfl (ma1_ rfl) ?_
    with_reducible refine (impl_number.calls a0_2 t118 _ ?sideL A4.out).mono ?_
    (case sideL => refine lay_at HLAY.out ?_; repeat (first | (with_reducible first | exact HB.out | apply below_alloc | apply pw_below_drewN | apply below_drew1 | refine below_set ?_ GE116.out) | exact HB.out))
    rintro e w12 ⟨rfl, hb⟩
    refine ⟨_, rfl, ?_⟩
    replace BK116 := ak_ (blk_below (bk_ BK116) hb)
    replace HB := ak_ (below_step hb_ hb)
    (try clear hb)
    (try clear hb2)
    (try clear hk)
    (try clear hi)
    refine hK.out _ _ ⟨(blk_cell BK116.out 0).trans rfl, (blk_cell BK116.out 1).trans rfl, (blk_cell BK116.out 2).trans rfl, (blk_cell BK116.out 3).trans rfl⟩ (fun hHeld => ?_)
    clear hK K
    refine norm_ (a' := ?_) ?_ ?_
    rotate_left
    ·show Act.put _ (some 12) _ = _
     simp only [Act.put, List.setIfInBounds_toArray, List.set_cons_zero, List.set_cons_succ, i64_w, i32_w]
     rfl
    refine one_ (i := 9) (N := some 15) impl_EventText.d10 rfl rfl (one_of HT_.out (by kernel_rfl)) (by decide) (fun K hK => ?_)
    refine goes_ Tryd.func25 (by kernel_rfl) rfl #[.int .i64 a0_3] (by rfl) rfl rfl (ma1_ rfl) ?_
    with_reducible refine (impl_number.calls a0_3 t119 _ ?sideL A5.out).mono ?_
    (case sideL => refine lay_at HLAY.out ?_; repeat (first | (with_reducible first | exact HB.out | apply below_alloc | apply pw_below_drewN | apply below_drew1 | refine below_set ?_ GE116.out) | exact HB.out))
    rintro e w13 ⟨rfl, hb⟩
    refine ⟨_, rfl, ?_⟩
    replace BK116 := ak_ (blk_below (bk_ BK116) hb)
    replace HB := ak_ (below_step hb_ hb)
    (try clear hb)
    (try clear hb2)
    (try clear hk)
    (try clear hi)
    refine hK.out _ _ ⟨(blk_cell BK116.out 0).trans rfl, (blk_cell BK116.out 1).trans rfl, (blk_cell BK116.out 2).trans rfl, (blk_cell BK116.out 3).trans rfl⟩ (fun hHeld => ?_)
    clear hK K
    refine norm_ (a' := ?_) ?_ ?_
    rotate_left
    ·show Act.put _ (some 15) _ = _
     simp only [Act.put, List.setIfInBounds_toArray, List.set_cons_zero, List.set_cons_succ, i64_w, i32_w]
     rfl
    refine pure_ (i := 10) (N := some 3) (v := ?_) (a' := ?_) impl_EventText.d11 rfl rfl (any_of HT_.out (by kernel_rfl)) (fun _ _ _ h => h) (Or.inl ⟨by rfl, ?_⟩) ?_ ?_; rotate_left; (intro w'; go_simp; with_reducible rfl); rotate_left; (simp only [Act.put, List.setIfInBounds_toArray, List.set_cons_zero, List.set_cons_succ, i64_w, i32_w]; rfl)
    refine pure_ (i := 11) (N := some 4) (v := ?_) (a' := ?_) impl_EventText.d12 rfl rfl (any_of HT_.out (by kernel_rfl)) (fun _ _ _ h => h) (Or.inl ⟨by rfl, ?_⟩) ?_ ?_; rotate_left; (intro w'; go_simp; with_reducible rfl); rotate_left; (simp only [Act.put, List.setIfInBounds_toArray, List.set_cons_zero, List.set_cons_succ, i64_w, i32_w]; rfl)
    refine pure_ (i := 12) (N := some 5) (v := ?_) (a' := ?_) impl_EventText.d13 rfl rfl (any_of HT_.out (by kernel_rfl)) (fun _ _ _ h => h) (Or.inl ⟨by rfl, ?_⟩) ?_ ?_; rotate_left; (intro w'; go_simp; with_reducible rfl); rotate_left; (simp only [Act.put, List.setIfInBounds_toArray, List.set_cons_zero, List.set_cons_succ, i64_w, i32_w]; rfl)
    refine done_ (done_of HT_.out (by kernel_rfl)) ?_
    obtain ⟨hcz14_0, hcz14_1, hcz14_2, hcz14_3, hfz14_0, hfz14_1, hfz14_2, hfz14_3⟩ := bc4_ BK116.out
    try go_wp2_with (first | ((with_reducible refine gate_dst (N := 23) rfl ?_); refine Kd.R_lit Kd.string _ 9 ?hg (N := 23) ?hd (xs := ([(⟨#[115, 99, 114, 97, 112, 101, 100]⟩ : ByteArray), t118, (⟨#[98, 97, 100]⟩ : ByteArray), t119] : List ByteArray)) (inner := [.string (⟨#[115, 99, 114, 97, 112, 101, 100]⟩ : ByteArray), .string t118, .string (⟨#[98, 97, 100]⟩ : ByteArray), .string t119]) (ok := fun _ => True) (okp := fun _ => True) ?hr ?hp (fun _ hk => hk) trivial (Below.refl _ _) (Nat.le_refl _) (by simp) ?_; (case hd => rfl); (case hg => rfl); (case hr => first | (go_simp; done) | (go_simp; rfl)); (case hp => exact (Reps.one (show Kd.M Kd.string _ _ _ (⟨#[115, 99, 114, 97, 112, 101, 100]⟩ : ByteArray) [.string (⟨#[115, 99, 114, 97, 112, 101, 100]⟩ : ByteArray)] from rfl) (Reps.one (show Kd.M Kd.string _ _ _ t118 [.string t118] from rfl) (Reps.one (show Kd.M Kd.string _ _ _ (⟨#[98, 97, 100]⟩ : ByteArray) [.string (⟨#[98, 97, 100]⟩ : ByteArray)] from rfl) (Reps.one (show Kd.M Kd.string _ _ _ t119 [.string t119] from rfl) (Reps.none _ _)))))); intro v121 w15 ho16 hb hg_ hnew_; clear hg_ hnew_; (first | rw [← Ny120.out] at ho16 | (simp only [Int.reduceToNat] at ho16; rw [← Ny120.out] at ho16)); have HO122 := ak_ (Kd.R_lower ho16 (below_size hb_)); replace BK116 := ak_ (blk_below (bk_ BK116) hb); replace HB := ak_ (below_step hb_ hb); clear hb ho16; obtain ⟨Ao17, co17, eo17⟩ := Kd.R_slice HO122.out; subst eo17) | ((with_reducible refine gate_callee (f := 26) rfl ?_); refine goesL_ (some 24) rfl rfl Tryd.func26 (by kernel_rfl) rfl #[.slice Ao17 y120.length co17] rfl (ma1_ rfl) ?_; (with_reducible refine (impl_words.calls _ _ y120 t123 _ ?side1 ?side2 A7.out).mono ?_); (case side1 => repeat (first | exact (Kd.R_reads' HO122.out).2.2 | (with_reducible refine Kd.C_alloc ?_ _) | (with_reducible refine Kd.C_drewN ?_ _) | (with_reducible refine Kd.C_drew ?_))); (case side2 => exact (Kd.R_reads' HO122.out).2.1); rintro e w18 ⟨rfl, hb⟩; refine ⟨_, rfl, ?_⟩; replace HO122 := ak_ (Kd.R_below (by (with_reducible repeat (first | apply Kd.R_alloc | apply Kd.R_drewN | apply Kd.R_drew)); exact HO122.out) hb); replace BK116 := ak_ (blk_below (bk_ BK116) hb); replace HB := ak_ (below_step hb_ hb); (try clear hb); (try clear hk)))
    go_ret
    exact ⟨ew_, hb_⟩
   ·rw [if_neg c8] at H
    exact absurd H (by simp)
  ·rw [if_neg c6] at H
   have c6b0 : (a0_0 == 0) = false := beq_eq_false_iff_ne.mpr c6
   have c6b1 : (a0_0 != 0) = true := bne_iff_ne.mpr c6
   by_cases c19 : a0_0 = 1
   ·rw [if_pos c19] at H
    have c19b0 : (a0_0 == 1) = true := beq_iff_eq.mpr c19
    have c19b1 : (a0_0 != 1) = false := bne_eq_false_iff_eq.mpr c19
    clear c19
    obtain ⟨y124, hy124⟩ : ∃ y_ : List ByteArray, y_ = (([(⟨#[109, 111, 118, 101, 100]⟩ : ByteArray), t118, (⟨#[116, 111]⟩ : ByteArray), t119] : List ByteArray)) := ⟨_, rfl⟩
    replace H : ((impl_words.f y124).bind fun t127 => (if (t117 ++ (⟨#[58, 32]⟩ : ByteArray)).size + t127.size ≤ 9223372036854775807 then (some ((t117 ++ (⟨#[58, 32]⟩ : ByteArray)) ++ t127)) else (none))) = some r := by first | (rw [hy124]; with_reducible exact H) | (have H2_ := (Option.bind_some _ _).symm.trans H; rw [hy124]; with_reducible exact H2_) | (have H2_ := (Option.bind_some _ _).symm.trans H; with_reducible exact H2_) | with_reducible exact H | (rw [hy124]; exact H) | exact H
    have Ny124 := Aside0.mk hy124
    clear hy124
    replace H := Option.bind_eq_some_iff.mp H
    obtain ⟨t127, A200, H⟩ := H
    replace H : (if (t117 ++ (⟨#[58, 32]⟩ : ByteArray)).size + t127.size ≤ 9223372036854775807 then (some ((t117 ++ (⟨#[58, 32]⟩ : ByteArray)) ++ t127)) else (none)) = some r := H
    have A20 := Aside0.mk A200
    clear A200
    by_cases c21 : (t117 ++ (⟨#[58, 32]⟩ : ByteArray)).size + t127.size ≤ 9223372036854775807
    ·rw [if_pos c21] at H
     have c21n3 := c21
     try simp only [ByteArray.size_append, show (⟨#[58, 32]⟩ : ByteArray).size = 2 from rfl] at c21n3
     try have c21n4 := eq_true c21n3
     try have c21n5 := decide_eq_true c21n3
     try have c21n6 := eq_false (Nat.not_lt.2 c21n3)
     have c21b0 := eq_true c21
     have c21b1 : decide ((t117 ++ (⟨#[58, 32]⟩ : ByteArray)).size + t127.size ≤ 9223372036854775807) = true := decide_eq_true c21
     try have c21b2 : (9223372036854775807 < (t117 ++ (⟨#[58, 32]⟩ : ByteArray)).size + t127.size) = False := eq_false (Nat.not_lt.2 c21)
     obtain rfl := Option.some.inj H
     go_enter Tryd.func9, Tryd.ntmps9
     try go_wp2_with (first | ((with_reducible refine gate_dst (N := 1) rfl ?_); refine be_ (N := 1) (cs := #[.int .i64 a0_0, .int .i64 a0_1, .int .i64 a0_2, .int .i64 a0_3]) (t := 25) ?_; intro gb116 hg w22 hbox hb; have BK116 := ak_ hbox; have GW116 := ak_ ((gs_ hg : w.heap.size ≤ gb116)); have GE116 := ak_ ((gs_ hg : w.heap.size ≤ gb116)); replace HB := ak_ (below_step hb_ hb); clear hb hbox hg))
     replace BK116 := ak_ (blk_drew BK116.out)
     replace HB := ak_ (below_drew1 HB.out)
     refine start_ (n := 13) (S := fun w' => w'.cell? ⟨gb116, 0, none⟩ = some (.int .i64 a0_0) ∧ w'.cell? ⟨gb116, 1, none⟩ = some (.int .i64 a0_1) ∧ w'.cell? ⟨gb116, 2, none⟩ = some (.int .i64 a0_2) ∧ w'.cell? ⟨gb116, 3, none⟩ = some (.int .i64 a0_3)) (ds := []) impl_EventText.d0 (by kernel_rfl) rfl rfl ⟨(blk_cell BK116.out 0).trans rfl, (blk_cell BK116.out 1).trans rfl, (blk_cell BK116.out 2).trans rfl, (blk_cell BK116.out 3).trans rfl⟩ (fun hHeld => ?_); refine with_tabW impl_EventText.tab1 impl_EventText.bits1 (fun HT_ HW_ => ?_)
     generalize w22.drew = w23 at BK116 HB hHeld ⊢
     refine pure_ (i := 0) (N := some 6) (v := ?_) (a' := ?_) impl_EventText.d1 rfl rfl (any_of HT_.out (by kernel_rfl)) (fun _ _ _ h => h) (Or.inl ⟨by rfl, ?_⟩) ?_ ?_; rotate_left; (intro w'; go_simp; with_reducible rfl); rotate_left; (simp only [Act.put, List.setIfInBounds_toArray, List.set_cons_zero, List.set_cons_succ, i64_w, i32_w]; rfl)
     refine pure_ (i := 4) (N := some 10) (v := ?_) (a' := ?_) impl_EventText.d2 rfl rfl (any_of HT_.out (by kernel_rfl)) (fun _ _ _ h => h) (Or.inl ⟨by rfl, ?_⟩) ?_ ?_; rotate_left; (intro w'; go_simp; with_reducible rfl); rotate_left; (simp only [Act.put, List.setIfInBounds_toArray, List.set_cons_zero, List.set_cons_succ, i64_w, i32_w]; rfl)
     refine pure_ (i := 7) (N := some 13) (v := ?_) (a' := ?_) impl_EventText.d3 rfl rfl (any_of HT_.out (by kernel_rfl)) (fun _ _ _ h => h) (Or.inl ⟨by rfl, ?_⟩) ?_ ?_; rotate_left; (intro w'; go_simp; with_reducible rfl); rotate_left; (simp only [Act.put, List.setIfInBounds_toArray, List.set_cons_zero, List.set_cons_succ, i64_w, i32_w]; rfl)
     refine take_ (i := 1) (N := some 7) (v := ?_) (a' := ?_) impl_EventText.d4 rfl rfl (take_ofW HT_.out HW_.out (by kernel_rfl)) (fun _ _ _ h => h) (Or.inl ⟨by rfl, ?_⟩) hHeld ?_ ?_; rotate_left; (rintro w' ⟨s0, s1, s2, s3⟩; go_simp; with_reducible rfl); rotate_left; (simp only [Act.put, List.setIfInBounds_toArray, List.set_cons_zero, List.set_cons_succ, i64_w, i32_w]; rfl)
     refine take_ (i := 5) (N := some 11) (v := ?_) (a' := ?_) impl_EventText.d5 rfl rfl (take_ofW HT_.out HW_.out (by kernel_rfl)) (fun _ _ _ h => h) (Or.inl ⟨by rfl, ?_⟩) hHeld ?_ ?_; rotate_left; (rintro w' ⟨s0, s1, s2, s3⟩; go_simp; with_reducible rfl); rotate_left; (simp only [Act.put, List.setIfInBounds_toArray, List.set_cons_zero, List.set_cons_succ, i64_w, i32_w]; rfl)
     refine take_ (i := 8) (N := some 14) (v := ?_) (a' := ?_) impl_EventText.d6 rfl rfl (take_ofW HT_.out HW_.out (by kernel_rfl)) (fun _ _ _ h => h) (Or.inl ⟨by rfl, ?_⟩) hHeld ?_ ?_; rotate_left; (rintro w' ⟨s0, s1, s2, s3⟩; go_simp; with_reducible rfl); rotate_left; (simp only [Act.put, List.setIfInBounds_toArray, List.set_cons_zero, List.set_cons_succ, i64_w, i32_w]; rfl)
     refine one_ (i := 2) (N := some 8) impl_EventText.d7 rfl rfl (one_of HT_.out (by kernel_rfl)) (by decide) (fun K hK => ?_)
     refine goes_ Tryd.func25 (by kernel_rfl) rfl #[.int .i64 a0_1] (by rfl) rfl rfl (ma1_ rfl) ?_
     with_reducible refine (impl_number.calls a0_1 t117 _ ?sideL A2.out).mono ?_
     (case sideL => refine lay_at HLAY.out ?_; repeat (first | (with_reducible first | exact HB.out | apply below_alloc | apply pw_below_drewN | apply below_drew1 | refine below_set ?_ GE116.out) | exact HB.out))
     rintro e w24 ⟨rfl, hb⟩
     refine ⟨_, rfl, ?_⟩
     replace BK116 := ak_ (blk_below (bk_ BK116) hb)
     replace HB := ak_ (below_step hb_ hb)
     (try clear hb)
     (try clear hb2)
     (try clear hk)
     (try clear hi)
     refine hK.out _ _ ⟨(blk_cell BK116.out 0).trans rfl, (blk_cell BK116.out 1).trans rfl, (blk_cell BK116.out 2).trans rfl, (blk_cell BK116.out 3).trans rfl⟩ (fun hHeld => ?_)
     clear hK K
     refine norm_ (a' := ?_) ?_ ?_
     rotate_left
     ·show Act.put _ (some 8) _ = _
      simp only [Act.put, List.setIfInBounds_toArray, List.set_cons_zero, List.set_cons_succ, i64_w, i32_w]
      rfl
     refine pure_ (i := 3) (N := some 9) (v := ?_) (a' := ?_) impl_EventText.d8 rfl rfl (any_of HT_.out (by kernel_rfl)) (fun _ _ _ h => h) (Or.inl ⟨by rfl, ?_⟩) ?_ ?_; rotate_left; (intro w'; go_simp; with_reducible rfl); rotate_left; (simp only [Act.put, List.setIfInBounds_toArray, List.set_cons_zero, List.set_cons_succ, i64_w, i32_w]; rfl)
     refine one_ (i := 6) (N := some 12) impl_EventText.d9 rfl rfl (one_of HT_.out (by kernel_rfl)) (by decide) (fun K hK => ?_)
     refine goes_ Tryd.func25 (by kernel_rfl) rfl #[.int .i64 a0_2] (by rfl) rfl rfl (ma1_ rfl) ?_
     with_reducible refine (impl_number.calls a0_2 t118 _ ?sideL A4.out).mono ?_
     (case sideL => refine lay_at HLAY.out ?_; repeat (first | (with_reducible first | exact HB.out | apply below_alloc | apply pw_below_drewN | apply below_drew1 | refine below_set ?_ GE116.out) | exact HB.out))
     rintro e w25 ⟨rfl, hb⟩
     refine ⟨_, rfl, ?_⟩
     replace BK116 := ak_ (blk_below (bk_ BK116) hb)
     replace HB := ak_ (below_step hb_ hb)
     (try clear hb)
     (try clear hb2)
     (try clear hk)
     (try clear hi)
     refine hK.out _ _ ⟨(blk_cell BK116.out 0).trans rfl, (blk_cell BK116.out 1).trans rfl, (blk_cell BK116.out 2).trans rfl, (blk_cell BK116.out 3).trans rfl⟩ (fun hHeld => ?_)
     clear hK K
     refine norm_ (a' := ?_) ?_ ?_
     rotate_left
     ·show Act.put _ (some 12) _ = _
      simp only [Act.put, List.setIfInBounds_toArray, List.set_cons_zero, List.set_cons_succ, i64_w, i32_w]
      rfl
     refine one_ (i := 9) (N := some 15) impl_EventText.d10 rfl rfl (one_of HT_.out (by kernel_rfl)) (by decide) (fun K hK => ?_)
     refine goes_ Tryd.func25 (by kernel_rfl) rfl #[.int .i64 a0_3] (by rfl) rfl rfl (ma1_ rfl) ?_
     with_reducible refine (impl_number.calls a0_3 t119 _ ?sideL A5.out).mono ?_
     (case sideL => refine lay_at HLAY.out ?_; repeat (first | (with_reducible first | exact HB.out | apply below_alloc | apply pw_below_drewN | apply below_drew1 | refine below_set ?_ GE116.out) | exact HB.out))
     rintro e w26 ⟨rfl, hb⟩
     refine ⟨_, rfl, ?_⟩
     replace BK116 := ak_ (blk_below (bk_ BK116) hb)
     replace HB := ak_ (below_step hb_ hb)
     (try clear hb)
     (try clear hb2)
     (try clear hk)
     (try clear hi)
     refine hK.out _ _ ⟨(blk_cell BK116.out 0).trans rfl, (blk_cell BK116.out 1).trans rfl, (blk_cell BK116.out 2).trans rfl, (blk_cell BK116.out 3).trans rfl⟩ (fun hHeld => ?_)
     clear hK K
     refine norm_ (a' := ?_) ?_ ?_
     rotate_left
     ·show Act.put _ (some 15) _ = _
      simp only [Act.put, List.setIfInBounds_toArray, List.set_cons_zero, List.set_cons_succ, i64_w, i32_w]
      rfl
     refine pure_ (i := 10) (N := some 3) (v := ?_) (a' := ?_) impl_EventText.d11 rfl rfl (any_of HT_.out (by kernel_rfl)) (fun _ _ _ h => h) (Or.inl ⟨by rfl, ?_⟩) ?_ ?_; rotate_left; (intro w'; go_simp; with_reducible rfl); rotate_left; (simp only [Act.put, List.setIfInBounds_toArray, List.set_cons_zero, List.set_cons_succ, i64_w, i32_w]; rfl)
     refine pure_ (i := 11) (N := some 4) (v := ?_) (a' := ?_) impl_EventText.d12 rfl rfl (any_of HT_.out (by kernel_rfl)) (fun _ _ _ h => h) (Or.inl ⟨by rfl, ?_⟩) ?_ ?_; rotate_left; (intro w'; go_simp; with_reducible rfl); rotate_left; (simp only [Act.put, List.setIfInBounds_toArray, List.set_cons_zero, List.set_cons_succ, i64_w, i32_w]; rfl)
     refine pure_ (i := 12) (N := some 5) (v := ?_) (a' := ?_) impl_EventText.d13 rfl rfl (any_of HT_.out (by kernel_rfl)) (fun _ _ _ h => h) (Or.inl ⟨by rfl, ?_⟩) ?_ ?_; rotate_left; (intro w'; go_simp; with_reducible rfl); rotate_left; (simp only [Act.put, List.setIfInBounds_toArray, List.set_cons_zero, List.set_cons_succ, i64_w, i32_w]; rfl)
     refine done_ (done_of HT_.out (by kernel_rfl)) ?_
     obtain ⟨hcz27_0, hcz27_1, hcz27_2, hcz27_3, hfz27_0, hfz27_1, hfz27_2, hfz27_3⟩ := bc4_ BK116.out
     try go_wp2_with (first | ((with_reducible refine gate_dst (N := 31) rfl ?_); refine Kd.R_lit Kd.string _ 9 ?hg (N := 31) ?hd (xs := ([(⟨#[109, 111, 118, 101, 100]⟩ : ByteArray), t118, (⟨#[116, 111]⟩ : ByteArray), t119] : List ByteArray)) (inner := [.string (⟨#[109, 111, 118, 101, 100]⟩ : ByteArray), .string t118, .string (⟨#[116, 111]⟩ : ByteArray), .string t119]) (ok := fun _ => True) (okp := fun _ => True) ?hr ?hp (fun _ hk => hk) trivial (Below.refl _ _) (Nat.le_refl _) (by simp) ?_; (case hd => rfl); (case hg => rfl); (case hr => first | (go_simp; done) | (go_simp; rfl)); (case hp => exact (Reps.one (show Kd.M Kd.string _ _ _ (⟨#[109, 111, 118, 101, 100]⟩ : ByteArray) [.string (⟨#[109, 111, 118, 101, 100]⟩ : ByteArray)] from rfl) (Reps.one (show Kd.M Kd.string _ _ _ t118 [.string t118] from rfl) (Reps.one (show Kd.M Kd.string _ _ _ (⟨#[116, 111]⟩ : ByteArray) [.string (⟨#[116, 111]⟩ : ByteArray)] from rfl) (Reps.one (show Kd.M Kd.string _ _ _ t119 [.string t119] from rfl) (Reps.none _ _)))))); intro v125 w28 ho29 hb hg_ hnew_; clear hg_ hnew_; (first | rw [← Ny124.out] at ho29 | (simp only [Int.reduceToNat] at ho29; rw [← Ny124.out] at ho29)); have HO126 := ak_ (Kd.R_lower ho29 (below_size hb_)); replace BK116 := ak_ (blk_below (bk_ BK116) hb); replace HB := ak_ (below_step hb_ hb); clear hb ho29; obtain ⟨Ao30, co30, eo30⟩ := Kd.R_slice HO126.out; subst eo30) | ((with_reducible refine gate_callee (f := 26) rfl ?_); refine goesL_ (some 32) rfl rfl Tryd.func26 (by kernel_rfl) rfl #[.slice Ao30 y124.length co30] rfl (ma1_ rfl) ?_; (with_reducible refine (impl_words.calls _ _ y124 t127 _ ?side1 ?side2 A20.out).mono ?_); (case side1 => repeat (first | exact (Kd.R_reads' HO126.out).2.2 | (with_reducible refine Kd.C_alloc ?_ _) | (with_reducible refine Kd.C_drewN ?_ _) | (with_reducible refine Kd.C_drew ?_))); (case side2 => exact (Kd.R_reads' HO126.out).2.1); rintro e w31 ⟨rfl, hb⟩; refine ⟨_, rfl, ?_⟩; replace HO126 := ak_ (Kd.R_below (by (with_reducible repeat (first | apply Kd.R_alloc | apply Kd.R_drewN | apply Kd.R_drew)); exact HO126.out) hb); replace BK116 := ak_ (blk_below (bk_ BK116) hb); replace HB := ak_ (below_step hb_ hb); (try clear hb); (try clear hk)))
     go_ret
     exact ⟨ew_, hb_⟩
    ·rw [if_neg c21] at H
     exact absurd H (by simp)
   ·rw [if_neg c19] at H
    have c19b0 : (a0_0 == 1) = false := beq_eq_false_iff_ne.mpr c19
    have c19b1 : (a0_0 != 1) = true := bne_iff_ne.mpr c19
    by_cases c32 : a0_0 = 2
    ·rw [if_pos c32] at H
     have c32b0 : (a0_0 == 2) = true := beq_iff_eq.mpr c32
     have c32b1 : (a0_0 != 2) = false := bne_eq_false_iff_eq.mpr c32
     clear c32
     obtain ⟨y128, hy128⟩ : ∃ y_ : List ByteArray, y_ = (([(⟨#[102, 97, 105, 108, 101, 100]⟩ : ByteArray), t118, (⟨#[116, 111]⟩ : ByteArray), t119] : List ByteArray)) := ⟨_, rfl⟩
     replace H : ((impl_words.f y128).bind fun t131 => (if (t117 ++ (⟨#[58, 32]⟩ : ByteArray)).size + t131.size ≤ 9223372036854775807 then (some ((t117 ++ (⟨#[58, 32]⟩ : ByteArray)) ++ t131)) else (none))) = some r := by first | (rw [hy128]; with_reducible exact H) | (have H2_ := (Option.bind_some _ _).symm.trans H; rw [hy128]; with_reducible exact H2_) | (have H2_ := (Option.bind_some _ _).symm.trans H; with_reducible exact H2_) | with_reducible exact H | (rw [hy128]; exact H) | exact H
     have Ny128 := Aside0.mk hy128
     clear hy128
     replace H := Option.bind_eq_some_iff.mp H
     obtain ⟨t131, A330, H⟩ := H
     replace H : (if (t117 ++ (⟨#[58, 32]⟩ : ByteArray)).size + t131.size ≤ 9223372036854775807 then (some ((t117 ++ (⟨#[58, 32]⟩ : ByteArray)) ++ t131)) else (none)) = some r := H
     have A33 := Aside0.mk A330
     clear A330
     by_cases c34 : (t117 ++ (⟨#[58, 32]⟩ : ByteArray)).size + t131.size ≤ 9223372036854775807
     ·rw [if_pos c34] at H
      have c34n3 := c34
      try simp only [ByteArray.size_append, show (⟨#[58, 32]⟩ : ByteArray).size = 2 from rfl] at c34n3
      try have c34n4 := eq_true c34n3
      try have c34n5 := decide_eq_true c34n3
      try have c34n6 := eq_false (Nat.not_lt.2 c34n3)
      have c34b0 := eq_true c34
      have c34b1 : decide ((t117 ++ (⟨#[58, 32]⟩ : ByteArray)).size + t131.size ≤ 9223372036854775807) = true := decide_eq_true c34
      try have c34b2 : (9223372036854775807 < (t117 ++ (⟨#[58, 32]⟩ : ByteArray)).size + t131.size) = False := eq_false (Nat.not_lt.2 c34)
      obtain rfl := Option.some.inj H
      go_enter Tryd.func9, Tryd.ntmps9
      try go_wp2_with (first | ((with_reducible refine gate_dst (N := 1) rfl ?_); refine be_ (N := 1) (cs := #[.int .i64 a0_0, .int .i64 a0_1, .int .i64 a0_2, .int .i64 a0_3]) (t := 25) ?_; intro gb116 hg w35 hbox hb; have BK116 := ak_ hbox; have GW116 := ak_ ((gs_ hg : w.heap.size ≤ gb116)); have GE116 := ak_ ((gs_ hg : w.heap.size ≤ gb116)); replace HB := ak_ (below_step hb_ hb); clear hb hbox hg))
      replace BK116 := ak_ (blk_drew BK116.out)
      replace HB := ak_ (below_drew1 HB.out)
      refine start_ (n := 13) (S := fun w' => w'.cell? ⟨gb116, 0, none⟩ = some (.int .i64 a0_0) ∧ w'.cell? ⟨gb116, 1, none⟩ = some (.int .i64 a0_1) ∧ w'.cell? ⟨gb116, 2, none⟩ = some (.int .i64 a0_2) ∧ w'.cell? ⟨gb116, 3, none⟩ = some (.int .i64 a0_3)) (ds := []) impl_EventText.d0 (by kernel_rfl) rfl rfl ⟨(blk_cell BK116.out 0).trans rfl, (blk_cell BK116.out 1).trans rfl, (blk_cell BK116.out 2).trans rfl, (blk_cell BK116.out 3).trans rfl⟩ (fun hHeld => ?_); refine with_tabW impl_EventText.tab1 impl_EventText.bits1 (fun HT_ HW_ => ?_)
      generalize w35.drew = w36 at BK116 HB hHeld ⊢
      refine pure_ (i := 0) (N := some 6) (v := ?_) (a' := ?_) impl_EventText.d1 rfl rfl (any_of HT_.out (by kernel_rfl)) (fun _ _ _ h => h) (Or.inl ⟨by rfl, ?_⟩) ?_ ?_; rotate_left; (intro w'; go_simp; with_reducible rfl); rotate_left; (simp only [Act.put, List.setIfInBounds_toArray, List.set_cons_zero, List.set_cons_succ, i64_w, i32_w]; rfl)
      refine pure_ (i := 4) (N := some 10) (v := ?_) (a' := ?_) impl_EventText.d2 rfl rfl (any_of HT_.out (by kernel_rfl)) (fun _ _ _ h => h) (Or.inl ⟨by rfl, ?_⟩) ?_ ?_; rotate_left; (intro w'; go_simp; with_reducible rfl); rotate_left; (simp only [Act.put, List.setIfInBounds_toArray, List.set_cons_zero, List.set_cons_succ, i64_w, i32_w]; rfl)
      refine pure_ (i := 7) (N := some 13) (v := ?_) (a' := ?_) impl_EventText.d3 rfl rfl (any_of HT_.out (by kernel_rfl)) (fun _ _ _ h => h) (Or.inl ⟨by rfl, ?_⟩) ?_ ?_; rotate_left; (intro w'; go_simp; with_reducible rfl); rotate_left; (simp only [Act.put, List.setIfInBounds_toArray, List.set_cons_zero, List.set_cons_succ, i64_w, i32_w]; rfl)
      refine take_ (i := 1) (N := some 7) (v := ?_) (a' := ?_) impl_EventText.d4 rfl rfl (take_ofW HT_.out HW_.out (by kernel_rfl)) (fun _ _ _ h => h) (Or.inl ⟨by rfl, ?_⟩) hHeld ?_ ?_; rotate_left; (rintro w' ⟨s0, s1, s2, s3⟩; go_simp; with_reducible rfl); rotate_left; (simp only [Act.put, List.setIfInBounds_toArray, List.set_cons_zero, List.set_cons_succ, i64_w, i32_w]; rfl)
      refine take_ (i := 5) (N := some 11) (v := ?_) (a' := ?_) impl_EventText.d5 rfl rfl (take_ofW HT_.out HW_.out (by kernel_rfl)) (fun _ _ _ h => h) (Or.inl ⟨by rfl, ?_⟩) hHeld ?_ ?_; rotate_left; (rintro w' ⟨s0, s1, s2, s3⟩; go_simp; with_reducible rfl); rotate_left; (simp only [Act.put, List.setIfInBounds_toArray, List.set_cons_zero, List.set_cons_succ, i64_w, i32_w]; rfl)
      refine take_ (i := 8) (N := some 14) (v := ?_) (a' := ?_) impl_EventText.d6 rfl rfl (take_ofW HT_.out HW_.out (by kernel_rfl)) (fun _ _ _ h => h) (Or.inl ⟨by rfl, ?_⟩) hHeld ?_ ?_; rotate_left; (rintro w' ⟨s0, s1, s2, s3⟩; go_simp; with_reducible rfl); rotate_left; (simp only [Act.put, List.setIfInBounds_toArray, List.set_cons_zero, List.set_cons_succ, i64_w, i32_w]; rfl)
      refine one_ (i := 2) (N := some 8) impl_EventText.d7 rfl rfl (one_of HT_.out (by kernel_rfl)) (by decide) (fun K hK => ?_)
      refine goes_ Tryd.func25 (by kernel_rfl) rfl #[.int .i64 a0_1] (by rfl) rfl rfl (ma1_ rfl) ?_
      with_reducible refine (impl_number.calls a0_1 t117 _ ?sideL A2.out).mono ?_
      (case sideL => refine lay_at HLAY.out ?_; repeat (first | (with_reducible first | exact HB.out | apply below_alloc | apply pw_below_drewN | apply below_drew1 | refine below_set ?_ GE116.out) | exact HB.out))
      rintro e w37 ⟨rfl, hb⟩
      refine ⟨_, rfl, ?_⟩
      replace BK116 := ak_ (blk_below (bk_ BK116) hb)
      replace HB := ak_ (below_step hb_ hb)
      (try clear hb)
      (try clear hb2)
      (try clear hk)
      (try clear hi)
      refine hK.out _ _ ⟨(blk_cell BK116.out 0).trans rfl, (blk_cell BK116.out 1).trans rfl, (blk_cell BK116.out 2).trans rfl, (blk_cell BK116.out 3).trans rfl⟩ (fun hHeld => ?_)
      clear hK K
      refine norm_ (a' := ?_) ?_ ?_
      rotate_left
      ·show Act.put _ (some 8) _ = _
       simp only [Act.put, List.setIfInBounds_toArray, List.set_cons_zero, List.set_cons_succ, i64_w, i32_w]
       rfl
      refine pure_ (i := 3) (N := some 9) (v := ?_) (a' := ?_) impl_EventText.d8 rfl rfl (any_of HT_.out (by kernel_rfl)) (fun _ _ _ h => h) (Or.inl ⟨by rfl, ?_⟩) ?_ ?_; rotate_left; (intro w'; go_simp; with_reducible rfl); rotate_left; (simp only [Act.put, List.setIfInBounds_toArray, List.set_cons_zero, List.set_cons_succ, i64_w, i32_w]; rfl)
      refine one_ (i := 6) (N := some 12) impl_EventText.d9 rfl rfl (one_of HT_.out (by kernel_rfl)) (by decide) (fun K hK => ?_)
      refine goes_ Tryd.func25 (by kernel_rfl) rfl #[.int .i64 a0_2] (by rfl) rfl rfl (ma1_ rfl) ?_
      with_reducible refine (impl_number.calls a0_2 t118 _ ?sideL A4.out).mono ?_
      (case sideL => refine lay_at HLAY.out ?_; repeat (first | (with_reducible first | exact HB.out | apply below_alloc | apply pw_below_drewN | apply below_drew1 | refine below_set ?_ GE116.out) | exact HB.out))
      rintro e w38 ⟨rfl, hb⟩
      refine ⟨_, rfl, ?_⟩
      replace BK116 := ak_ (blk_below (bk_ BK116) hb)
      replace HB := ak_ (below_step hb_ hb)
      (try clear hb)
      (try clear hb2)
      (try clear hk)
      (try clear hi)
      refine hK.out _ _ ⟨(blk_cell BK116.out 0).trans rfl, (blk_cell BK116.out 1).trans rfl, (blk_cell BK116.out 2).trans rfl, (blk_cell BK116.out 3).trans rfl⟩ (fun hHeld => ?_)
      clear hK K
      refine norm_ (a' := ?_) ?_ ?_
      rotate_left
      ·show Act.put _ (some 12) _ = _
       simp only [Act.put, List.setIfInBounds_toArray, List.set_cons_zero, List.set_cons_succ, i64_w, i32_w]
       rfl
      refine one_ (i := 9) (N := some 15) impl_EventText.d10 rfl rfl (one_of HT_.out (by kernel_rfl)) (by decide) (fun K hK => ?_)
      refine goes_ Tryd.func25 (by kernel_rfl) rfl #[.int .i64 a0_3] (by rfl) rfl rfl (ma1_ rfl) ?_
      with_reducible refine (impl_number.calls a0_3 t119 _ ?sideL A5.out).mono ?_
      (case sideL => refine lay_at HLAY.out ?_; repeat (first | (with_reducible first | exact HB.out | apply below_alloc | apply pw_below_drewN | apply below_drew1 | refine below_set ?_ GE116.out) | exact HB.out))
      rintro e w39 ⟨rfl, hb⟩
      refine ⟨_, rfl, ?_⟩
      replace BK116 := ak_ (blk_below (bk_ BK116) hb)
      replace HB := ak_ (below_step hb_ hb)
      (try clear hb)
      (try clear hb2)
      (try clear hk)
      (try clear hi)
      refine hK.out _ _ ⟨(blk_cell BK116.out 0).trans rfl, (blk_cell BK116.out 1).trans rfl, (blk_cell BK116.out 2).trans rfl, (blk_cell BK116.out 3).trans rfl⟩ (fun hHeld => ?_)
      clear hK K
      refine norm_ (a' := ?_) ?_ ?_
      rotate_left
      ·show Act.put _ (some 15) _ = _
       simp only [Act.put, List.setIfInBounds_toArray, List.set_cons_zero, List.set_cons_succ, i64_w, i32_w]
       rfl
      refine pure_ (i := 10) (N := some 3) (v := ?_) (a' := ?_) impl_EventText.d11 rfl rfl (any_of HT_.out (by kernel_rfl)) (fun _ _ _ h => h) (Or.inl ⟨by rfl, ?_⟩) ?_ ?_; rotate_left; (intro w'; go_simp; with_reducible rfl); rotate_left; (simp only [Act.put, List.setIfInBounds_toArray, List.set_cons_zero, List.set_cons_succ, i64_w, i32_w]; rfl)
      refine pure_ (i := 11) (N := some 4) (v := ?_) (a' := ?_) impl_EventText.d12 rfl rfl (any_of HT_.out (by kernel_rfl)) (fun _ _ _ h => h) (Or.inl ⟨by rfl, ?_⟩) ?_ ?_; rotate_left; (intro w'; go_simp; with_reducible rfl); rotate_left; (simp only [Act.put, List.setIfInBounds_toArray, List.set_cons_zero, List.set_cons_succ, i64_w, i32_w]; rfl)
      refine pure_ (i := 12) (N := some 5) (v := ?_) (a' := ?_) impl_EventText.d13 rfl rfl (any_of HT_.out (by kernel_rfl)) (fun _ _ _ h => h) (Or.inl ⟨by rfl, ?_⟩) ?_ ?_; rotate_left; (intro w'; go_simp; with_reducible rfl); rotate_left; (simp only [Act.put, List.setIfInBounds_toArray, List.set_cons_zero, List.set_cons_succ, i64_w, i32_w]; rfl)
      refine done_ (done_of HT_.out (by kernel_rfl)) ?_
      obtain ⟨hcz40_0, hcz40_1, hcz40_2, hcz40_3, hfz40_0, hfz40_1, hfz40_2, hfz40_3⟩ := bc4_ BK116.out
      try go_wp2_with (first | ((with_reducible refine gate_dst (N := 39) rfl ?_); refine Kd.R_lit Kd.string _ 9 ?hg (N := 39) ?hd (xs := ([(⟨#[102, 97, 105, 108, 101, 100]⟩ : ByteArray), t118, (⟨#[116, 111]⟩ : ByteArray), t119] : List ByteArray)) (inner := [.string (⟨#[102, 97, 105, 108, 101, 100]⟩ : ByteArray), .string t118, .string (⟨#[116, 111]⟩ : ByteArray), .string t119]) (ok := fun _ => True) (okp := fun _ => True) ?hr ?hp (fun _ hk => hk) trivial (Below.refl _ _) (Nat.le_refl _) (by simp) ?_; (case hd => rfl); (case hg => rfl); (case hr => first | (go_simp; done) | (go_simp; rfl)); (case hp => exact (Reps.one (show Kd.M Kd.string _ _ _ (⟨#[102, 97, 105, 108, 101, 100]⟩ : ByteArray) [.string (⟨#[102, 97, 105, 108, 101, 100]⟩ : ByteArray)] from rfl) (Reps.one (show Kd.M Kd.string _ _ _ t118 [.string t118] from rfl) (Reps.one (show Kd.M Kd.string _ _ _ (⟨#[116, 111]⟩ : ByteArray) [.string (⟨#[116, 111]⟩ : ByteArray)] from rfl) (Reps.one (show Kd.M Kd.string _ _ _ t119 [.string t119] from rfl) (Reps.none _ _)))))); intro v129 w41 ho42 hb hg_ hnew_; clear hg_ hnew_; (first | rw [← Ny128.out] at ho42 | (simp only [Int.reduceToNat] at ho42; rw [← Ny128.out] at ho42)); have HO130 := ak_ (Kd.R_lower ho42 (below_size hb_)); replace BK116 := ak_ (blk_below (bk_ BK116) hb); replace HB := ak_ (below_step hb_ hb); clear hb ho42; obtain ⟨Ao43, co43, eo43⟩ := Kd.R_slice HO130.out; subst eo43) | ((with_reducible refine gate_callee (f := 26) rfl ?_); refine goesL_ (some 40) rfl rfl Tryd.func26 (by kernel_rfl) rfl #[.slice Ao43 y128.length co43] rfl (ma1_ rfl) ?_; (with_reducible refine (impl_words.calls _ _ y128 t131 _ ?side1 ?side2 A33.out).mono ?_); (case side1 => repeat (first | exact (Kd.R_reads' HO130.out).2.2 | (with_reducible refine Kd.C_alloc ?_ _) | (with_reducible refine Kd.C_drewN ?_ _) | (with_reducible refine Kd.C_drew ?_))); (case side2 => exact (Kd.R_reads' HO130.out).2.1); rintro e w44 ⟨rfl, hb⟩; refine ⟨_, rfl, ?_⟩; replace HO130 := ak_ (Kd.R_below (by (with_reducible repeat (first | apply Kd.R_alloc | apply Kd.R_drewN | apply Kd.R_drew)); exact HO130.out) hb); replace BK116 := ak_ (blk_below (bk_ BK116) hb); replace HB := ak_ (below_step hb_ hb); (try clear hb); (try clear hk)))
      go_ret
      exact ⟨ew_, hb_⟩
     ·rw [if_neg c34] at H
      exact absurd H (by simp)
    ·rw [if_neg c32] at H
     have c32b0 : (a0_0 == 2) = false := beq_eq_false_iff_ne.mpr c32
     have c32b1 : (a0_0 != 2) = true := bne_iff_ne.mpr c32
     by_cases c45 : a0_0 = 3
     ·rw [if_pos c45] at H
      have c45b0 : (a0_0 == 3) = true := beq_iff_eq.mpr c45
      have c45b1 : (a0_0 != 3) = false := bne_eq_false_iff_eq.mpr c45
      clear c45
      by_cases c46 : (t117 ++ (⟨#[58, 32]⟩ : ByteArray)).size + 7 ≤ 9223372036854775807
      ·rw [if_pos c46] at H
       have c46n3 := c46
       try simp only [ByteArray.size_append, show (⟨#[58, 32]⟩ : ByteArray).size = 2 from rfl] at c46n3
       try have c46n4 := eq_true c46n3
       try have c46n5 := decide_eq_true c46n3
       try have c46n6 := eq_false (Nat.not_lt.2 c46n3)
       have c46b0 := eq_true c46
       have c46b1 : decide ((t117 ++ (⟨#[58, 32]⟩ : ByteArray)).size + 7 ≤ 9223372036854775807) = true := decide_eq_true c46
       try have c46b2 : (9223372036854775807 < (t117 ++ (⟨#[58, 32]⟩ : ByteArray)).size + 7) = False := eq_false (Nat.not_lt.2 c46)
       obtain rfl := Option.some.inj H
       go_enter Tryd.func9, Tryd.ntmps9
       try go_wp2_with (first | ((with_reducible refine gate_dst (N := 1) rfl ?_); refine be_ (N := 1) (cs := #[.int .i64 a0_0, .int .i64 a0_1, .int .i64 a0_2, .int .i64 a0_3]) (t := 25) ?_; intro gb116 hg w47 hbox hb; have BK116 := ak_ hbox; have GW116 := ak_ ((gs_ hg : w.heap.size ≤ gb116)); have GE116 := ak_ ((gs_ hg : w.heap.size ≤ gb116)); replace HB := ak_ (below_step hb_ hb); clear hb hbox hg))
       replace BK116 := ak_ (blk_drew BK116.out)
       replace HB := ak_ (below_drew1 HB.out)
       refine start_ (n := 13) (S := fun w' => w'.cell? ⟨gb116, 0, none⟩ = some (.int .i64 a0_0) ∧ w'.cell? ⟨gb116, 1, none⟩ = some (.int .i64 a0_1) ∧ w'.cell? ⟨gb116, 2, none⟩ = some (.int .i64 a0_2) ∧ w'.cell? ⟨gb116, 3, none⟩ = some (.int .i64 a0_3)) (ds := []) impl_EventText.d0 (by kernel_rfl) rfl rfl ⟨(blk_cell BK116.out 0).trans rfl, (blk_cell BK116.out 1).trans rfl, (blk_cell BK116.out 2).trans rfl, (blk_cell BK116.out 3).trans rfl⟩ (fun hHeld => ?_); refine with_tabW impl_EventText.tab1 impl_EventText.bits1 (fun HT_ HW_ => ?_)
       generalize w47.drew = w48 at BK116 HB hHeld ⊢
       refine pure_ (i := 0) (N := some 6) (v := ?_) (a' := ?_) impl_EventText.d1 rfl rfl (any_of HT_.out (by kernel_rfl)) (fun _ _ _ h => h) (Or.inl ⟨by rfl, ?_⟩) ?_ ?_; rotate_left; (intro w'; go_simp; with_reducible rfl); rotate_left; (simp only [Act.put, List.setIfInBounds_toArray, List.set_cons_zero, List.set_cons_succ, i64_w, i32_w]; rfl)
       refine pure_ (i := 4) (N := some 10) (v := ?_) (a' := ?_) impl_EventText.d2 rfl rfl (any_of HT_.out (by kernel_rfl)) (fun _ _ _ h => h) (Or.inl ⟨by rfl, ?_⟩) ?_ ?_; rotate_left; (intro w'; go_simp; with_reducible rfl); rotate_left; (simp only [Act.put, List.setIfInBounds_toArray, List.set_cons_zero, List.set_cons_succ, i64_w, i32_w]; rfl)
       refine pure_ (i := 7) (N := some 13) (v := ?_) (a' := ?_) impl_EventText.d3 rfl rfl (any_of HT_.out (by kernel_rfl)) (fun _ _ _ h => h) (Or.inl ⟨by rfl, ?_⟩) ?_ ?_; rotate_left; (intro w'; go_simp; with_reducible rfl); rotate_left; (simp only [Act.put, List.setIfInBounds_toArray, List.set_cons_zero, List.set_cons_succ, i64_w, i32_w]; rfl)
       refine take_ (i := 1) (N := some 7) (v := ?_) (a' := ?_) impl_EventText.d4 rfl rfl (take_ofW HT_.out HW_.out (by kernel_rfl)) (fun _ _ _ h => h) (Or.inl ⟨by rfl, ?_⟩) hHeld ?_ ?_; rotate_left; (rintro w' ⟨s0, s1, s2, s3⟩; go_simp; with_reducible rfl); rotate_left; (simp only [Act.put, List.setIfInBounds_toArray, List.set_cons_zero, List.set_cons_succ, i64_w, i32_w]; rfl)
       refine take_ (i := 5) (N := some 11) (v := ?_) (a' := ?_) impl_EventText.d5 rfl rfl (take_ofW HT_.out HW_.out (by kernel_rfl)) (fun _ _ _ h => h) (Or.inl ⟨by rfl, ?_⟩) hHeld ?_ ?_; rotate_left; (rintro w' ⟨s0, s1, s2, s3⟩; go_simp; with_reducible rfl); rotate_left; (simp only [Act.put, List.setIfInBounds_toArray, List.set_cons_zero, List.set_cons_succ, i64_w, i32_w]; rfl)
       refine take_ (i := 8) (N := some 14) (v := ?_) (a' := ?_) impl_EventText.d6 rfl rfl (take_ofW HT_.out HW_.out (by kernel_rfl)) (fun _ _ _ h => h) (Or.inl ⟨by rfl, ?_⟩) hHeld ?_ ?_; rotate_left; (rintro w' ⟨s0, s1, s2, s3⟩; go_simp; with_reducible rfl); rotate_left; (simp only [Act.put, List.setIfInBounds_toArray, List.set_cons_zero, List.set_cons_succ, i64_w, i32_w]; rfl)
       refine one_ (i := 2) (N := some 8) impl_EventText.d7 rfl rfl (one_of HT_.out (by kernel_rfl)) (by decide) (fun K hK => ?_)
       refine goes_ Tryd.func25 (by kernel_rfl) rfl #[.int .i64 a0_1] (by rfl) rfl rfl (ma1_ rfl) ?_
       with_reducible refine (impl_number.calls a0_1 t117 _ ?sideL A2.out).mono ?_
       (case sideL => refine lay_at HLAY.out ?_; repeat (first | (with_reducible first | exact HB.out | apply below_alloc | apply pw_below_drewN | apply below_drew1 | refine below_set ?_ GE116.out) | exact HB.out))
       rintro e w49 ⟨rfl, hb⟩
       refine ⟨_, rfl, ?_⟩
       replace BK116 := ak_ (blk_below (bk_ BK116) hb)
       replace HB := ak_ (below_step hb_ hb)
       (try clear hb)
       (try clear hb2)
       (try clear hk)
       (try clear hi)
       refine hK.out _ _ ⟨(blk_cell BK116.out 0).trans rfl, (blk_cell BK116.out 1).trans rfl, (blk_cell BK116.out 2).trans rfl, (blk_cell BK116.out 3).trans rfl⟩ (fun hHeld => ?_)
       clear hK K
       refine norm_ (a' := ?_) ?_ ?_
       rotate_left
       ·show Act.put _ (some 8) _ = _
        simp only [Act.put, List.setIfInBounds_toArray, List.set_cons_zero, List.set_cons_succ, i64_w, i32_w]
        rfl
       refine pure_ (i := 3) (N := some 9) (v := ?_) (a' := ?_) impl_EventText.d8 rfl rfl (any_of HT_.out (by kernel_rfl)) (fun _ _ _ h => h) (Or.inl ⟨by rfl, ?_⟩) ?_ ?_; rotate_left; (intro w'; go_simp; with_reducible rfl); rotate_left; (simp only [Act.put, List.setIfInBounds_toArray, List.set_cons_zero, List.set_cons_succ, i64_w, i32_w]; rfl)
       refine one_ (i := 6) (N := some 12) impl_EventText.d9 rfl rfl (one_of HT_.out (by kernel_rfl)) (by decide) (fun K hK => ?_)
       refine goes_ Tryd.func25 (by kernel_rfl) rfl #[.int .i64 a0_2] (by rfl) rfl rfl (ma1_ rfl) ?_
       with_reducible refine (impl_number.calls a0_2 t118 _ ?sideL A4.out).mono ?_
       (case sideL => refine lay_at HLAY.out ?_; repeat (first | (with_reducible first | exact HB.out | apply below_alloc | apply pw_below_drewN | apply below_drew1 | refine below_set ?_ GE116.out) | exact HB.out))
       rintro e w50 ⟨rfl, hb⟩
       refine ⟨_, rfl, ?_⟩
       replace BK116 := ak_ (blk_below (bk_ BK116) hb)
       replace HB := ak_ (below_step hb_ hb)
       (try clear hb)
       (try clear hb2)
       (try clear hk)
       (try clear hi)
       refine hK.out _ _ ⟨(blk_cell BK116.out 0).trans rfl, (blk_cell BK116.out 1).trans rfl, (blk_cell BK116.out 2).trans rfl, (blk_cell BK116.out 3).trans rfl⟩ (fun hHeld => ?_)
       clear hK K
       refine norm_ (a' := ?_) ?_ ?_
       rotate_left
       ·show Act.put _ (some 12) _ = _
        simp only [Act.put, List.setIfInBounds_toArray, List.set_cons_zero, List.set_cons_succ, i64_w, i32_w]
        rfl
       refine one_ (i := 9) (N := some 15) impl_EventText.d10 rfl rfl (one_of HT_.out (by kernel_rfl)) (by decide) (fun K hK => ?_)
       refine goes_ Tryd.func25 (by kernel_rfl) rfl #[.int .i64 a0_3] (by rfl) rfl rfl (ma1_ rfl) ?_
       with_reducible refine (impl_number.calls a0_3 t119 _ ?sideL A5.out).mono ?_
       (case sideL => refine lay_at HLAY.out ?_; repeat (first | (with_reducible first | exact HB.out | apply below_alloc | apply pw_below_drewN | apply below_drew1 | refine below_set ?_ GE116.out) | exact HB.out))
       rintro e w51 ⟨rfl, hb⟩
       refine ⟨_, rfl, ?_⟩
       replace BK116 := ak_ (blk_below (bk_ BK116) hb)
       replace HB := ak_ (below_step hb_ hb)
       (try clear hb)
       (try clear hb2)
       (try clear hk)
       (try clear hi)
       refine hK.out _ _ ⟨(blk_cell BK116.out 0).trans rfl, (blk_cell BK116.out 1).trans rfl, (blk_cell BK116.out 2).trans rfl, (blk_cell BK116.out 3).trans rfl⟩ (fun hHeld => ?_)
       clear hK K
       refine norm_ (a' := ?_) ?_ ?_
       rotate_left
       ·show Act.put _ (some 15) _ = _
        simp only [Act.put, List.setIfInBounds_toArray, List.set_cons_zero, List.set_cons_succ, i64_w, i32_w]
        rfl
       refine pure_ (i := 10) (N := some 3) (v := ?_) (a' := ?_) impl_EventText.d11 rfl rfl (any_of HT_.out (by kernel_rfl)) (fun _ _ _ h => h) (Or.inl ⟨by rfl, ?_⟩) ?_ ?_; rotate_left; (intro w'; go_simp; with_reducible rfl); rotate_left; (simp only [Act.put, List.setIfInBounds_toArray, List.set_cons_zero, List.set_cons_succ, i64_w, i32_w]; rfl)
       refine pure_ (i := 11) (N := some 4) (v := ?_) (a' := ?_) impl_EventText.d12 rfl rfl (any_of HT_.out (by kernel_rfl)) (fun _ _ _ h => h) (Or.inl ⟨by rfl, ?_⟩) ?_ ?_; rotate_left; (intro w'; go_simp; with_reducible rfl); rotate_left; (simp only [Act.put, List.setIfInBounds_toArray, List.set_cons_zero, List.set_cons_succ, i64_w, i32_w]; rfl)
       refine pure_ (i := 12) (N := some 5) (v := ?_) (a' := ?_) impl_EventText.d13 rfl rfl (any_of HT_.out (by kernel_rfl)) (fun _ _ _ h => h) (Or.inl ⟨by rfl, ?_⟩) ?_ ?_; rotate_left; (intro w'; go_simp; with_reducible rfl); rotate_left; (simp only [Act.put, List.setIfInBounds_toArray, List.set_cons_zero, List.set_cons_succ, i64_w, i32_w]; rfl)
       refine done_ (done_of HT_.out (by kernel_rfl)) ?_
       obtain ⟨hcz52_0, hcz52_1, hcz52_2, hcz52_3, hfz52_0, hfz52_1, hfz52_2, hfz52_3⟩ := bc4_ BK116.out
       try go_wp2
       go_ret
       exact ⟨ew_, hb_⟩
      ·rw [if_neg c46] at H
       exact absurd H (by simp)
     ·rw [if_neg c45] at H
      have c45b0 : (a0_0 == 3) = false := beq_eq_false_iff_ne.mpr c45
      have c45b1 : (a0_0 != 3) = true := bne_iff_ne.mpr c45
      by_cases c53 : a0_0 = 4
      ·rw [if_pos c53] at H
       have c53b0 : (a0_0 == 4) = true := beq_iff_eq.mpr c53
       have c53b1 : (a0_0 != 4) = false := bne_eq_false_iff_eq.mpr c53
       clear c53
       obtain ⟨y132, hy132⟩ : ∃ y_ : List ByteArray, y_ = (([(⟨#[104, 97, 110, 100, 115]⟩ : ByteArray), t118, (⟨#[116, 111]⟩ : ByteArray), t119] : List ByteArray)) := ⟨_, rfl⟩
       replace H : ((impl_words.f y132).bind fun t135 => (if (t117 ++ (⟨#[58, 32]⟩ : ByteArray)).size + t135.size ≤ 9223372036854775807 then (some ((t117 ++ (⟨#[58, 32]⟩ : ByteArray)) ++ t135)) else (none))) = some r := by first | (rw [hy132]; with_reducible exact H) | (have H2_ := (Option.bind_some _ _).symm.trans H; rw [hy132]; with_reducible exact H2_) | (have H2_ := (Option.bind_some _ _).symm.trans H; with_reducible exact H2_) | with_reducible exact H | (rw [hy132]; exact H) | exact H
       have Ny132 := Aside0.mk hy132
       clear hy132
       replace H := Option.bind_eq_some_iff.mp H
       obtain ⟨t135, A540, H⟩ := H
       replace H : (if (t117 ++ (⟨#[58, 32]⟩ : ByteArray)).size + t135.size ≤ 9223372036854775807 then (some ((t117 ++ (⟨#[58, 32]⟩ : ByteArray)) ++ t135)) else (none)) = some r := H
       have A54 := Aside0.mk A540
       clear A540
       by_cases c55 : (t117 ++ (⟨#[58, 32]⟩ : ByteArray)).size + t135.size ≤ 9223372036854775807
       ·rw [if_pos c55] at H
        have c55n3 := c55
        try simp only [ByteArray.size_append, show (⟨#[58, 32]⟩ : ByteArray).size = 2 from rfl] at c55n3
        try have c55n4 := eq_true c55n3
        try have c55n5 := decide_eq_true c55n3
        try have c55n6 := eq_false (Nat.not_lt.2 c55n3)
        have c55b0 := eq_true c55
        have c55b1 : decide ((t117 ++ (⟨#[58, 32]⟩ : ByteArray)).size + t135.size ≤ 9223372036854775807) = true := decide_eq_true c55
        try have c55b2 : (9223372036854775807 < (t117 ++ (⟨#[58, 32]⟩ : ByteArray)).size + t135.size) = False := eq_false (Nat.not_lt.2 c55)
        obtain rfl := Option.some.inj H
        go_enter Tryd.func9, Tryd.ntmps9
        try go_wp2_with (first | ((with_reducible refine gate_dst (N := 1) rfl ?_); refine be_ (N := 1) (cs := #[.int .i64 a0_0, .int .i64 a0_1, .int .i64 a0_2, .int .i64 a0_3]) (t := 25) ?_; intro gb116 hg w56 hbox hb; have BK116 := ak_ hbox; have GW116 := ak_ ((gs_ hg : w.heap.size ≤ gb116)); have GE116 := ak_ ((gs_ hg : w.heap.size ≤ gb116)); replace HB := ak_ (below_step hb_ hb); clear hb hbox hg))
        replace BK116 := ak_ (blk_drew BK116.out)
        replace HB := ak_ (below_drew1 HB.out)
        refine start_ (n := 13) (S := fun w' => w'.cell? ⟨gb116, 0, none⟩ = some (.int .i64 a0_0) ∧ w'.cell? ⟨gb116, 1, none⟩ = some (.int .i64 a0_1) ∧ w'.cell? ⟨gb116, 2, none⟩ = some (.int .i64 a0_2) ∧ w'.cell? ⟨gb116, 3, none⟩ = some (.int .i64 a0_3)) (ds := []) impl_EventText.d0 (by kernel_rfl) rfl rfl ⟨(blk_cell BK116.out 0).trans rfl, (blk_cell BK116.out 1).trans rfl, (blk_cell BK116.out 2).trans rfl, (blk_cell BK116.out 3).trans rfl⟩ (fun hHeld => ?_); refine with_tabW impl_EventText.tab1 impl_EventText.bits1 (fun HT_ HW_ => ?_)
        generalize w56.drew = w57 at BK116 HB hHeld ⊢
        refine pure_ (i := 0) (N := some 6) (v := ?_) (a' := ?_) impl_EventText.d1 rfl rfl (any_of HT_.out (by kernel_rfl)) (fun _ _ _ h => h) (Or.inl ⟨by rfl, ?_⟩) ?_ ?_; rotate_left; (intro w'; go_simp; with_reducible rfl); rotate_left; (simp only [Act.put, List.setIfInBounds_toArray, List.set_cons_zero, List.set_cons_succ, i64_w, i32_w]; rfl)
        refine pure_ (i := 4) (N := some 10) (v := ?_) (a' := ?_) impl_EventText.d2 rfl rfl (any_of HT_.out (by kernel_rfl)) (fun _ _ _ h => h) (Or.inl ⟨by rfl, ?_⟩) ?_ ?_; rotate_left; (intro w'; go_simp; with_reducible rfl); rotate_left; (simp only [Act.put, List.setIfInBounds_toArray, List.set_cons_zero, List.set_cons_succ, i64_w, i32_w]; rfl)
        refine pure_ (i := 7) (N := some 13) (v := ?_) (a' := ?_) impl_EventText.d3 rfl rfl (any_of HT_.out (by kernel_rfl)) (fun _ _ _ h => h) (Or.inl ⟨by rfl, ?_⟩) ?_ ?_; rotate_left; (intro w'; go_simp; with_reducible rfl); rotate_left; (simp only [Act.put, List.setIfInBounds_toArray, List.set_cons_zero, List.set_cons_succ, i64_w, i32_w]; rfl)
        refine take_ (i := 1) (N := some 7) (v := ?_) (a' := ?_) impl_EventText.d4 rfl rfl (take_ofW HT_.out HW_.out (by kernel_rfl)) (fun _ _ _ h => h) (Or.inl ⟨by rfl, ?_⟩) hHeld ?_ ?_; rotate_left; (rintro w' ⟨s0, s1, s2, s3⟩; go_simp; with_reducible rfl); rotate_left; (simp only [Act.put, List.setIfInBounds_toArray, List.set_cons_zero, List.set_cons_succ, i64_w, i32_w]; rfl)
        refine take_ (i := 5) (N := some 11) (v := ?_) (a' := ?_) impl_EventText.d5 rfl rfl (take_ofW HT_.out HW_.out (by kernel_rfl)) (fun _ _ _ h => h) (Or.inl ⟨by rfl, ?_⟩) hHeld ?_ ?_; rotate_left; (rintro w' ⟨s0, s1, s2, s3⟩; go_simp; with_reducible rfl); rotate_left; (simp only [Act.put, List.setIfInBounds_toArray, List.set_cons_zero, List.set_cons_succ, i64_w, i32_w]; rfl)
        refine take_ (i := 8) (N := some 14) (v := ?_) (a' := ?_) impl_EventText.d6 rfl rfl (take_ofW HT_.out HW_.out (by kernel_rfl)) (fun _ _ _ h => h) (Or.inl ⟨by rfl, ?_⟩) hHeld ?_ ?_; rotate_left; (rintro w' ⟨s0, s1, s2, s3⟩; go_simp; with_reducible rfl); rotate_left; (simp only [Act.put, List.setIfInBounds_toArray, List.set_cons_zero, List.set_cons_succ, i64_w, i32_w]; rfl)
        refine one_ (i := 2) (N := some 8) impl_EventText.d7 rfl rfl (one_of HT_.out (by kernel_rfl)) (by decide) (fun K hK => ?_)
        refine goes_ Tryd.func25 (by kernel_rfl) rfl #[.int .i64 a0_1] (by rfl) rfl rfl (ma1_ rfl) ?_
        with_reducible refine (impl_number.calls a0_1 t117 _ ?sideL A2.out).mono ?_
        (case sideL => refine lay_at HLAY.out ?_; repeat (first | (with_reducible first | exact HB.out | apply below_alloc | apply pw_below_drewN | apply below_drew1 | refine below_set ?_ GE116.out) | exact HB.out))
        rintro e w58 ⟨rfl, hb⟩
        refine ⟨_, rfl, ?_⟩
        replace BK116 := ak_ (blk_below (bk_ BK116) hb)
        replace HB := ak_ (below_step hb_ hb)
        (try clear hb)
        (try clear hb2)
        (try clear hk)
        (try clear hi)
        refine hK.out _ _ ⟨(blk_cell BK116.out 0).trans rfl, (blk_cell BK116.out 1).trans rfl, (blk_cell BK116.out 2).trans rfl, (blk_cell BK116.out 3).trans rfl⟩ (fun hHeld => ?_)
        clear hK K
        refine norm_ (a' := ?_) ?_ ?_
        rotate_left
        ·show Act.put _ (some 8) _ = _
         simp only [Act.put, List.setIfInBounds_toArray, List.set_cons_zero, List.set_cons_succ, i64_w, i32_w]
         rfl
        refine pure_ (i := 3) (N := some 9) (v := ?_) (a' := ?_) impl_EventText.d8 rfl rfl (any_of HT_.out (by kernel_rfl)) (fun _ _ _ h => h) (Or.inl ⟨by rfl, ?_⟩) ?_ ?_; rotate_left; (intro w'; go_simp; with_reducible rfl); rotate_left; (simp only [Act.put, List.setIfInBounds_toArray, List.set_cons_zero, List.set_cons_succ, i64_w, i32_w]; rfl)
        refine one_ (i := 6) (N := some 12) impl_EventText.d9 rfl rfl (one_of HT_.out (by kernel_rfl)) (by decide) (fun K hK => ?_)
        refine goes_ Tryd.func25 (by kernel_rfl) rfl #[.int .i64 a0_2] (by rfl) rfl rfl (ma1_ rfl) ?_
        with_reducible refine (impl_number.calls a0_2 t118 _ ?sideL A4.out).mono ?_
        (case sideL => refine lay_at HLAY.out ?_; repeat (first | (with_reducible first | exact HB.out | apply below_alloc | apply pw_below_drewN | apply below_drew1 | refine below_set ?_ GE116.out) | exact HB.out))
        rintro e w59 ⟨rfl, hb⟩
        refine ⟨_, rfl, ?_⟩
        replace BK116 := ak_ (blk_below (bk_ BK116) hb)
        replace HB := ak_ (below_step hb_ hb)
        (try clear hb)
        (try clear hb2)
        (try clear hk)
        (try clear hi)
        refine hK.out _ _ ⟨(blk_cell BK116.out 0).trans rfl, (blk_cell BK116.out 1).trans rfl, (blk_cell BK116.out 2).trans rfl, (blk_cell BK116.out 3).trans rfl⟩ (fun hHeld => ?_)
        clear hK K
        refine norm_ (a' := ?_) ?_ ?_
        rotate_left
        ·show Act.put _ (some 12) _ = _
         simp only [Act.put, List.setIfInBounds_toArray, List.set_cons_zero, List.set_cons_succ, i64_w, i32_w]
         rfl
        refine one_ (i := 9) (N := some 15) impl_EventText.d10 rfl rfl (one_of HT_.out (by kernel_rfl)) (by decide) (fun K hK => ?_)
        refine goes_ Tryd.func25 (by kernel_rfl) rfl #[.int .i64 a0_3] (by rfl) rfl rfl (ma1_ rfl) ?_
        with_reducible refine (impl_number.calls a0_3 t119 _ ?sideL A5.out).mono ?_
        (case sideL => refine lay_at HLAY.out ?_; repeat (first | (with_reducible first | exact HB.out | apply below_alloc | apply pw_below_drewN | apply below_drew1 | refine below_set ?_ GE116.out) | exact HB.out))
        rintro e w60 ⟨rfl, hb⟩
        refine ⟨_, rfl, ?_⟩
        replace BK116 := ak_ (blk_below (bk_ BK116) hb)
        replace HB := ak_ (below_step hb_ hb)
        (try clear hb)
        (try clear hb2)
        (try clear hk)
        (try clear hi)
        refine hK.out _ _ ⟨(blk_cell BK116.out 0).trans rfl, (blk_cell BK116.out 1).trans rfl, (blk_cell BK116.out 2).trans rfl, (blk_cell BK116.out 3).trans rfl⟩ (fun hHeld => ?_)
        clear hK K
        refine norm_ (a' := ?_) ?_ ?_
        rotate_left
        ·show Act.put _ (some 15) _ = _
         simp only [Act.put, List.setIfInBounds_toArray, List.set_cons_zero, List.set_cons_succ, i64_w, i32_w]
         rfl
        refine pure_ (i := 10) (N := some 3) (v := ?_) (a' := ?_) impl_EventText.d11 rfl rfl (any_of HT_.out (by kernel_rfl)) (fun _ _ _ h => h) (Or.inl ⟨by rfl, ?_⟩) ?_ ?_; rotate_left; (intro w'; go_simp; with_reducible rfl); rotate_left; (simp only [Act.put, List.setIfInBounds_toArray, List.set_cons_zero, List.set_cons_succ, i64_w, i32_w]; rfl)
        refine pure_ (i := 11) (N := some 4) (v := ?_) (a' := ?_) impl_EventText.d12 rfl rfl (any_of HT_.out (by kernel_rfl)) (fun _ _ _ h => h) (Or.inl ⟨by rfl, ?_⟩) ?_ ?_; rotate_left; (intro w'; go_simp; with_reducible rfl); rotate_left; (simp only [Act.put, List.setIfInBounds_toArray, List.set_cons_zero, List.set_cons_succ, i64_w, i32_w]; rfl)
        refine pure_ (i := 12) (N := some 5) (v := ?_) (a' := ?_) impl_EventText.d13 rfl rfl (any_of HT_.out (by kernel_rfl)) (fun _ _ _ h => h) (Or.inl ⟨by rfl, ?_⟩) ?_ ?_; rotate_left; (intro w'; go_simp; with_reducible rfl); rotate_left; (simp only [Act.put, List.setIfInBounds_toArray, List.set_cons_zero, List.set_cons_succ, i64_w, i32_w]; rfl)
        refine done_ (done_of HT_.out (by kernel_rfl)) ?_
        obtain ⟨hcz61_0, hcz61_1, hcz61_2, hcz61_3, hfz61_0, hfz61_1, hfz61_2, hfz61_3⟩ := bc4_ BK116.out
        try go_wp2_with (first | ((with_reducible refine gate_dst (N := 51) rfl ?_); refine Kd.R_lit Kd.string _ 9 ?hg (N := 51) ?hd (xs := ([(⟨#[104, 97, 110, 100, 115]⟩ : ByteArray), t118, (⟨#[116, 111]⟩ : ByteArray), t119] : List ByteArray)) (inner := [.string (⟨#[104, 97, 110, 100, 115]⟩ : ByteArray), .string t118, .string (⟨#[116, 111]⟩ : ByteArray), .string t119]) (ok := fun _ => True) (okp := fun _ => True) ?hr ?hp (fun _ hk => hk) trivial (Below.refl _ _) (Nat.le_refl _) (by simp) ?_; (case hd => rfl); (case hg => rfl); (case hr => first | (go_simp; done) | (go_simp; rfl)); (case hp => exact (Reps.one (show Kd.M Kd.string _ _ _ (⟨#[104, 97, 110, 100, 115]⟩ : ByteArray) [.string (⟨#[104, 97, 110, 100, 115]⟩ : ByteArray)] from rfl) (Reps.one (show Kd.M Kd.string _ _ _ t118 [.string t118] from rfl) (Reps.one (show Kd.M Kd.string _ _ _ (⟨#[116, 111]⟩ : ByteArray) [.string (⟨#[116, 111]⟩ : ByteArray)] from rfl) (Reps.one (show Kd.M Kd.string _ _ _ t119 [.string t119] from rfl) (Reps.none _ _)))))); intro v133 w62 ho63 hb hg_ hnew_; clear hg_ hnew_; (first | rw [← Ny132.out] at ho63 | (simp only [Int.reduceToNat] at ho63; rw [← Ny132.out] at ho63)); have HO134 := ak_ (Kd.R_lower ho63 (below_size hb_)); replace BK116 := ak_ (blk_below (bk_ BK116) hb); replace HB := ak_ (below_step hb_ hb); clear hb ho63; obtain ⟨Ao64, co64, eo64⟩ := Kd.R_slice HO134.out; subst eo64) | ((with_reducible refine gate_callee (f := 26) rfl ?_); refine goesL_ (some 52) rfl rfl Tryd.func26 (by kernel_rfl) rfl #[.slice Ao64 y132.length co64] rfl (ma1_ rfl) ?_; (with_reducible refine (impl_words.calls _ _ y132 t135 _ ?side1 ?side2 A54.out).mono ?_); (case side1 => repeat (first | exact (Kd.R_reads' HO134.out).2.2 | (with_reducible refine Kd.C_alloc ?_ _) | (with_reducible refine Kd.C_drewN ?_ _) | (with_reducible refine Kd.C_drew ?_))); (case side2 => exact (Kd.R_reads' HO134.out).2.1); rintro e w65 ⟨rfl, hb⟩; refine ⟨_, rfl, ?_⟩; replace HO134 := ak_ (Kd.R_below (by (with_reducible repeat (first | apply Kd.R_alloc | apply Kd.R_drewN | apply Kd.R_drew)); exact HO134.out) hb); replace BK116 := ak_ (blk_below (bk_ BK116) hb); replace HB := ak_ (below_step hb_ hb); (try clear hb); (try clear hk)))
        go_ret
        exact ⟨ew_, hb_⟩
       ·rw [if_neg c55] at H
        exact absurd H (by simp)
      ·rw [if_neg c53] at H
       have c53b0 : (a0_0 == 4) = false := beq_eq_false_iff_ne.mpr c53
       have c53b1 : (a0_0 != 4) = true := bne_iff_ne.mpr c53
       obtain rfl := Option.some.inj H
       go_enter Tryd.func9, Tryd.ntmps9
       try go_wp2_with (first | ((with_reducible refine gate_dst (N := 1) rfl ?_); refine be_ (N := 1) (cs := #[.int .i64 a0_0, .int .i64 a0_1, .int .i64 a0_2, .int .i64 a0_3]) (t := 25) ?_; intro gb116 hg w66 hbox hb; have BK116 := ak_ hbox; have GW116 := ak_ ((gs_ hg : w.heap.size ≤ gb116)); have GE116 := ak_ ((gs_ hg : w.heap.size ≤ gb116)); replace HB := ak_ (below_step hb_ hb); clear hb hbox hg))
       replace BK116 := ak_ (blk_drew BK116.out)
       replace HB := ak_ (below_drew1 HB.out)
       refine start_ (n := 13) (S := fun w' => w'.cell? ⟨gb116, 0, none⟩ = some (.int .i64 a0_0) ∧ w'.cell? ⟨gb116, 1, none⟩ = some (.int .i64 a0_1) ∧ w'.cell? ⟨gb116, 2, none⟩ = some (.int .i64 a0_2) ∧ w'.cell? ⟨gb116, 3, none⟩ = some (.int .i64 a0_3)) (ds := []) impl_EventText.d0 (by kernel_rfl) rfl rfl ⟨(blk_cell BK116.out 0).trans rfl, (blk_cell BK116.out 1).trans rfl, (blk_cell BK116.out 2).trans rfl, (blk_cell BK116.out 3).trans rfl⟩ (fun hHeld => ?_); refine with_tabW impl_EventText.tab1 impl_EventText.bits1 (fun HT_ HW_ => ?_)
       generalize w66.drew = w67 at BK116 HB hHeld ⊢
       refine pure_ (i := 0) (N := some 6) (v := ?_) (a' := ?_) impl_EventText.d1 rfl rfl (any_of HT_.out (by kernel_rfl)) (fun _ _ _ h => h) (Or.inl ⟨by rfl, ?_⟩) ?_ ?_; rotate_left; (intro w'; go_simp; with_reducible rfl); rotate_left; (simp only [Act.put, List.setIfInBounds_toArray, List.set_cons_zero, List.set_cons_succ, i64_w, i32_w]; rfl)
       refine pure_ (i := 4) (N := some 10) (v := ?_) (a' := ?_) impl_EventText.d2 rfl rfl (any_of HT_.out (by kernel_rfl)) (fun _ _ _ h => h) (Or.inl ⟨by rfl, ?_⟩) ?_ ?_; rotate_left; (intro w'; go_simp; with_reducible rfl); rotate_left; (simp only [Act.put, List.setIfInBounds_toArray, List.set_cons_zero, List.set_cons_succ, i64_w, i32_w]; rfl)
       refine pure_ (i := 7) (N := some 13) (v := ?_) (a' := ?_) impl_EventText.d3 rfl rfl (any_of HT_.out (by kernel_rfl)) (fun _ _ _ h => h) (Or.inl ⟨by rfl, ?_⟩) ?_ ?_; rotate_left; (intro w'; go_simp; with_reducible rfl); rotate_left; (simp only [Act.put, List.setIfInBounds_toArray, List.set_cons_zero, List.set_cons_succ, i64_w, i32_w]; rfl)
       refine take_ (i := 1) (N := some 7) (v := ?_) (a' := ?_) impl_EventText.d4 rfl rfl (take_ofW HT_.out HW_.out (by kernel_rfl)) (fun _ _ _ h => h) (Or.inl ⟨by rfl, ?_⟩) hHeld ?_ ?_; rotate_left; (rintro w' ⟨s0, s1, s2, s3⟩; go_simp; with_reducible rfl); rotate_left; (simp only [Act.put, List.setIfInBounds_toArray, List.set_cons_zero, List.set_cons_succ, i64_w, i32_w]; rfl)
       refine take_ (i := 5) (N := some 11) (v := ?_) (a' := ?_) impl_EventText.d5 rfl rfl (take_ofW HT_.out HW_.out (by kernel_rfl)) (fun _ _ _ h => h) (Or.inl ⟨by rfl, ?_⟩) hHeld ?_ ?_; rotate_left; (rintro w' ⟨s0, s1, s2, s3⟩; go_simp; with_reducible rfl); rotate_left; (simp only [Act.put, List.setIfInBounds_toArray, List.set_cons_zero, List.set_cons_succ, i64_w, i32_w]; rfl)
       refine take_ (i := 8) (N := some 14) (v := ?_) (a' := ?_) impl_EventText.d6 rfl rfl (take_ofW HT_.out HW_.out (by kernel_rfl)) (fun _ _ _ h => h) (Or.inl ⟨by rfl, ?_⟩) hHeld ?_ ?_; rotate_left; (rintro w' ⟨s0, s1, s2, s3⟩; go_simp; with_reducible rfl); rotate_left; (simp only [Act.put, List.setIfInBounds_toArray, List.set_cons_zero, List.set_cons_succ, i64_w, i32_w]; rfl)
       refine one_ (i := 2) (N := some 8) impl_EventText.d7 rfl rfl (one_of HT_.out (by kernel_rfl)) (by decide) (fun K hK => ?_)
       refine goes_ Tryd.func25 (by kernel_rfl) rfl #[.int .i64 a0_1] (by rfl) rfl rfl (ma1_ rfl) ?_
       with_reducible refine (impl_number.calls a0_1 t117 _ ?sideL A2.out).mono ?_
       (case sideL => refine lay_at HLAY.out ?_; repeat (first | (with_reducible first | exact HB.out | apply below_alloc | apply pw_below_drewN | apply below_drew1 | refine below_set ?_ GE116.out) | exact HB.out))
       rintro e w68 ⟨rfl, hb⟩
       refine ⟨_, rfl, ?_⟩
       replace BK116 := ak_ (blk_below (bk_ BK116) hb)
       replace HB := ak_ (below_step hb_ hb)
       (try clear hb)
       (try clear hb2)
       (try clear hk)
       (try clear hi)
       refine hK.out _ _ ⟨(blk_cell BK116.out 0).trans rfl, (blk_cell BK116.out 1).trans rfl, (blk_cell BK116.out 2).trans rfl, (blk_cell BK116.out 3).trans rfl⟩ (fun hHeld => ?_)
       clear hK K
       refine norm_ (a' := ?_) ?_ ?_
       rotate_left
       ·show Act.put _ (some 8) _ = _
        simp only [Act.put, List.setIfInBounds_toArray, List.set_cons_zero, List.set_cons_succ, i64_w, i32_w]
        rfl
       refine pure_ (i := 3) (N := some 9) (v := ?_) (a' := ?_) impl_EventText.d8 rfl rfl (any_of HT_.out (by kernel_rfl)) (fun _ _ _ h => h) (Or.inl ⟨by rfl, ?_⟩) ?_ ?_; rotate_left; (intro w'; go_simp; with_reducible rfl); rotate_left; (simp only [Act.put, List.setIfInBounds_toArray, List.set_cons_zero, List.set_cons_succ, i64_w, i32_w]; rfl)
       refine one_ (i := 6) (N := some 12) impl_EventText.d9 rfl rfl (one_of HT_.out (by kernel_rfl)) (by decide) (fun K hK => ?_)
       refine goes_ Tryd.func25 (by kernel_rfl) rfl #[.int .i64 a0_2] (by rfl) rfl rfl (ma1_ rfl) ?_
       with_reducible refine (impl_number.calls a0_2 t118 _ ?sideL A4.out).mono ?_
       (case sideL => refine lay_at HLAY.out ?_; repeat (first | (with_reducible first | exact HB.out | apply below_alloc | apply pw_below_drewN | apply below_drew1 | refine below_set ?_ GE116.out) | exact HB.out))
       rintro e w69 ⟨rfl, hb⟩
       refine ⟨_, rfl, ?_⟩
       replace BK116 := ak_ (blk_below (bk_ BK116) hb)
       replace HB := ak_ (below_step hb_ hb)
       (try clear hb)
       (try clear hb2)
       (try clear hk)
       (try clear hi)
       refine hK.out _ _ ⟨(blk_cell BK116.out 0).trans rfl, (blk_cell BK116.out 1).trans rfl, (blk_cell BK116.out 2).trans rfl, (blk_cell BK116.out 3).trans rfl⟩ (fun hHeld => ?_)
       clear hK K
       refine norm_ (a' := ?_) ?_ ?_
       rotate_left
       ·show Act.put _ (some 12) _ = _
        simp only [Act.put, List.setIfInBounds_toArray, List.set_cons_zero, List.set_cons_succ, i64_w, i32_w]
        rfl
       refine one_ (i := 9) (N := some 15) impl_EventText.d10 rfl rfl (one_of HT_.out (by kernel_rfl)) (by decide) (fun K hK => ?_)
       refine goes_ Tryd.func25 (by kernel_rfl) rfl #[.int .i64 a0_3] (by rfl) rfl rfl (ma1_ rfl) ?_
       with_reducible refine (impl_number.calls a0_3 t119 _ ?sideL A5.out).mono ?_
       (case sideL => refine lay_at HLAY.out ?_; repeat (first | (with_reducible first | exact HB.out | apply below_alloc | apply pw_below_drewN | apply below_drew1 | refine below_set ?_ GE116.out) | exact HB.out))
       rintro e w70 ⟨rfl, hb⟩
       refine ⟨_, rfl, ?_⟩
       replace BK116 := ak_ (blk_below (bk_ BK116) hb)
       replace HB := ak_ (below_step hb_ hb)
       (try clear hb)
       (try clear hb2)
       (try clear hk)
       (try clear hi)
       refine hK.out _ _ ⟨(blk_cell BK116.out 0).trans rfl, (blk_cell BK116.out 1).trans rfl, (blk_cell BK116.out 2).trans rfl, (blk_cell BK116.out 3).trans rfl⟩ (fun hHeld => ?_)
       clear hK K
       refine norm_ (a' := ?_) ?_ ?_
       rotate_left
       ·show Act.put _ (some 15) _ = _
        simp only [Act.put, List.setIfInBounds_toArray, List.set_cons_zero, List.set_cons_succ, i64_w, i32_w]
        rfl
       refine pure_ (i := 10) (N := some 3) (v := ?_) (a' := ?_) impl_EventText.d11 rfl rfl (any_of HT_.out (by kernel_rfl)) (fun _ _ _ h => h) (Or.inl ⟨by rfl, ?_⟩) ?_ ?_; rotate_left; (intro w'; go_simp; with_reducible rfl); rotate_left; (simp only [Act.put, List.setIfInBounds_toArray, List.set_cons_zero, List.set_cons_succ, i64_w, i32_w]; rfl)
       refine pure_ (i := 11) (N := some 4) (v := ?_) (a' := ?_) impl_EventText.d12 rfl rfl (any_of HT_.out (by kernel_rfl)) (fun _ _ _ h => h) (Or.inl ⟨by rfl, ?_⟩) ?_ ?_; rotate_left; (intro w'; go_simp; with_reducible rfl); rotate_left; (simp only [Act.put, List.setIfInBounds_toArray, List.set_cons_zero, List.set_cons_succ, i64_w, i32_w]; rfl)
       refine pure_ (i := 12) (N := some 5) (v := ?_) (a' := ?_) impl_EventText.d13 rfl rfl (any_of HT_.out (by kernel_rfl)) (fun _ _ _ h => h) (Or.inl ⟨by rfl, ?_⟩) ?_ ?_; rotate_left; (intro w'; go_simp; with_reducible rfl); rotate_left; (simp only [Act.put, List.setIfInBounds_toArray, List.set_cons_zero, List.set_cons_succ, i64_w, i32_w]; rfl)
       refine done_ (done_of HT_.out (by kernel_rfl)) ?_
       obtain ⟨hcz71_0, hcz71_1, hcz71_2, hcz71_3, hfz71_0, hfz71_1, hfz71_2, hfz71_3⟩ := bc4_ BK116.out
       try go_wp2
       go_ret
       exact ⟨ew_, hb_⟩
 ·rw [if_neg c3] at H
  exact absurd H (by simp)

end Go.Proofs.YtblfoelddakelaaDoor.U
