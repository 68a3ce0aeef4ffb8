-- PRINTED by print.py (a twelfth state) out of the translation. Not trusted: Lean checks it.
import Derived.Test.YtblfoelddakelaaH0
namespace Go.Proofs.Ytblfoelddakelaa.H
open Go.RowKit Go.Proofs.YtblfoelddakelaaW.PrintWords Go.Proofs.YtblfoelddakelaaW.PrintLast Go.Proofs.YtblfoelddakelaaW.PrintMore
attribute [local go_sem] max2_int min2_int max_two min_two max_three min_three max_four min_four   -- for this text's walks alone
set_option linter.unusedVariables false
set_option linter.unusedSimpArgs false

/-! ### laws_eqNoteS: function 55 -/
def laws_eqNoteS.f (l0 : List (S116)) (l1 : List (S116)) : Option (Bool) := if l0.length = 0 ∧ l1.length = 0 then some true else none
set_option maxHeartbeats 4000000 in
theorem laws_eqNoteS.calls (A0 : Option Addr) (c0 : Nat) (l0 : List (S116)) (A1 : Option Addr) (c1 : Nat) (l1 : List (S116)) (r : Bool) (w : World) (hr0 : Kd.C k116 w A0 l0.length l0) (hc0 : l0.length ≤ c0) (hr1 : Kd.C k116 w A1 l1.length l1) (hc1 : l1.length ≤ c1) (h : laws_eqNoteS.f l0 l1 = some r) :
    Calls Try.prog 55 #[.slice A0 l0.length c0, .slice A1 l1.length c1] w fun e w' => e = .returned (.bool r) ∧ Below w.heap.size w w' := by
  unfold laws_eqNoteS.f at h
  by_cases hb : l0.length = 0 ∧ l1.length = 0
  · rw [if_pos hb] at h
    obtain rfl := Option.some.inj h
    obtain ⟨h0, h1⟩ := hb
    rw [h0, h1]
    clear h hr0 hc0 hr1 hc1 h0 h1
    have HB := Aside0.mk (Below.refl w.heap.size w)
    go_enter Try.func55, Try.ntmps55
    go_wp2
    go_loopg [5] 0 (fun gg v5 w' => v5 = .int .i64 0 ∧ Aside0 (Below w.heap.size w w'))
    case atStart => exact ⟨rfl, ⟨hb_⟩⟩
    case round =>
      clear HB
      obtain ⟨rfl, HB⟩ := hrel
      go_wp2
      go_ret
      exact ⟨ew_, hb_⟩
  · rw [if_neg hb] at h
    cases h

/-! ### laws_eqMoveS: function 56 -/
def laws_eqMoveS.f (l0 : List (S119)) (l1 : List (S119)) : Option (Bool) := if l0.length = 0 ∧ l1.length = 0 then some true else none
set_option maxHeartbeats 4000000 in
theorem laws_eqMoveS.calls (A0 : Option Addr) (c0 : Nat) (l0 : List (S119)) (A1 : Option Addr) (c1 : Nat) (l1 : List (S119)) (r : Bool) (w : World) (hr0 : Kd.C k119 w A0 l0.length l0) (hc0 : l0.length ≤ c0) (hr1 : Kd.C k119 w A1 l1.length l1) (hc1 : l1.length ≤ c1) (h : laws_eqMoveS.f l0 l1 = some r) :
    Calls Try.prog 56 #[.slice A0 l0.length c0, .slice A1 l1.length c1] w fun e w' => e = .returned (.bool r) ∧ Below w.heap.size w w' := by
  unfold laws_eqMoveS.f at h
  by_cases hb : l0.length = 0 ∧ l1.length = 0
  · rw [if_pos hb] at h
    obtain rfl := Option.some.inj h
    obtain ⟨h0, h1⟩ := hb
    rw [h0, h1]
    clear h hr0 hc0 hr1 hc1 h0 h1
    have HB := Aside0.mk (Below.refl w.heap.size w)
    go_enter Try.func56, Try.ntmps56
    go_wp2
    go_loopg [5] 0 (fun gg v5 w' => v5 = .int .i64 0 ∧ Aside0 (Below w.heap.size w w'))
    case atStart => exact ⟨rfl, ⟨hb_⟩⟩
    case round =>
      clear HB
      obtain ⟨rfl, HB⟩ := hrel
      go_wp2
      go_ret
      exact ⟨ew_, hb_⟩
  · rw [if_neg hb] at h
    cases h

end Go.Proofs.Ytblfoelddakelaa.H
