-- PRINTED by print.py (a twelfth state) out of the translation. Not trusted: Lean checks it.
import Derived.Test.YtblfoelddakelaaDoorP0
namespace Go.Proofs.YtblfoelddakelaaDoor.P
open Go.RowKit Go.Proofs.YtblfoelddakelaaDoorW.PrintWords Go.Proofs.YtblfoelddakelaaDoorW.PrintLast Go.Proofs.YtblfoelddakelaaDoorW.PrintMore
attribute [local go_sem] max2_int min2_int max_two min_two max_three min_three max_four min_four   -- for this text's walks alone
set_option linter.unusedVariables false
set_option linter.unusedSimpArgs false

/-! ### strings_Split: function 46 -/
def strings_Split.f (a0 : ByteArray) (a1 : ByteArray) : Option (List ByteArray) := if a0.size ≤ 1048576 ∧ a1.size = 1 then some (Lib.splitB a1 0 (Lib.countB a0 a1) a0) else none
theorem strings_Split.calls (a0 : ByteArray) (a1 : ByteArray) (r : List ByteArray) (w : World) (hL : Lay w) (h : strings_Split.f a0 a1 = some r) :
    Calls Tryd.prog 46 #[.string a0, .string a1] w fun e w' => ∃ v0_ : Value, e = .returned (v0_) ∧ Kd.R Kd.string 9 w' w.heap.size (fun _ => True) v0_ r ∧ Below w.heap.size w w' := by
  unfold strings_Split.f at h
  by_cases hb : a0.size ≤ 1048576 ∧ a1.size = 1
  · rw [if_pos hb] at h
    obtain rfl := Option.some.inj h
    obtain ⟨m, hm⟩ := hL.2.1
    have hc := Lib.countB_le a1 (by omega) a0.size a0 (Nat.le_refl _)
    have hl := Lib.splitB_all a1 (by omega) 0 _ a0 rfl
    refine (Tryd.strings_Split a0 a1 m w (by omega) hm (by omega)).mono ?_
    rintro e w' ⟨rfl, rfl⟩
    refine ⟨_, rfl, ?_, below_alloc (Below.refl _ _) _⟩
    rw [← hl]
    generalize Lib.splitB a1 0 (Lib.countB a0 a1) a0 = l at hl ⊢
    refine Kd.R_of_own ?_ (fun _ _ => trivial)
    have h2 := World.ownsRow_lit (base := w.heap.size) (e := 9) (size := 1) w (l.map Value.string).toArray l.length (Nat.le_refl _) (by unfold maxLen; omega) (by simp)
    simpa [encs] using h2
  · rw [if_neg hb] at h
    cases h

/-! ### impl_atoi: function 48 -/
def impl_atoi.of : Lib.NumEnd Int → Int
  | .ok v => v
  | _ => 0
def impl_atoi.f (a0 : ByteArray) : Option (Int) := if a0.size ≤ 281474976710656 then some (impl_atoi.of (Lib.atoiAll a0.data.toList)) else none
theorem bytesWorld_below_ (w : World) (e : TypeId) (t : ByteArray) : Below w.heap.size w (Lib.bytesWorld w e t) := Lib.bytesWorld_below _ _ _
set_option maxHeartbeats 4000000 in
theorem impl_atoi.calls (a0 : ByteArray) (r : Int) (w : World) (hL : Lay w) (h : impl_atoi.f a0 = some r) :
    Calls Tryd.prog 48 #[.string a0] w fun e w' => e = .returned (.int .i64 r) ∧ Below w.heap.size w w' := by
  unfold impl_atoi.f at h
  by_cases hb : a0.size ≤ 281474976710656
  · rw [if_pos hb] at h
    cases hq : Lib.atoiAll a0.data.toList with
    | ok v =>
      rw [hq] at h
      obtain rfl := Option.some.inj h
      have hc := Tryd.strconv_Atoi_ok a0 (by omega) v hq w
      clear h
      go_enter Tryd.func48, Tryd.ntmps48
      go_wp2_with (go_at_call 70; refine hc.mono ?_; rintro e w' ⟨rfl, hw⟩)
      go_ret
      refine ⟨rfl, ?_⟩
      rcases hw with rfl | ⟨t, rfl⟩
      · exact Below.refl _ _
      · exact bytesWorld_below_ _ _ _
    | «syntax» =>
      rw [hq] at h
      obtain rfl := Option.some.inj h
      obtain ⟨ev, hv, hev⟩ := hL.2.2.1
      have hc := Tryd.strconv_Atoi_syntax a0 hb hq ev w hv hev
      clear h
      go_enter Tryd.func48, Tryd.ntmps48
      go_wp2_with (go_at_call 70; refine hc.mono ?_; rintro e w' ⟨N, rfl, hw1, hw2, hw⟩)
      go_ret
      exact ⟨rfl, hw⟩
    | range =>
      rw [hq] at h
      obtain rfl := Option.some.inj h
      obtain ⟨ev, hv, hev⟩ := hL.2.2.2
      have hc := Tryd.strconv_Atoi_range a0 hb hq ev w hv hev
      clear h
      go_enter Tryd.func48, Tryd.ntmps48
      go_wp2_with (go_at_call 70; refine hc.mono ?_; rintro e w' ⟨N, rfl, hw1, hw2, hw⟩)
      go_ret
      exact ⟨rfl, hw⟩
  · rw [if_neg hb] at h
    cases h

end Go.Proofs.YtblfoelddakelaaDoor.P
