-- PRINTED by print.py (a twelfth state) out of the translation. Not trusted: Lean checks it.
import Derived.Test.YtblfoelddakelaaH0
namespace Go.Proofs.Ytblfoelddakelaa.H
open Go.RowKit Go.Proofs.YtblfoelddakelaaW.PrintWords Go.Proofs.YtblfoelddakelaaW.PrintLast Go.Proofs.YtblfoelddakelaaW.PrintMore
attribute [local go_sem] max2_int min2_int max_two min_two max_three min_three max_four min_four   -- for this text's walks alone
set_option linter.unusedVariables false
set_option linter.unusedSimpArgs false

/-! ### laws_markPodS: function 57 -/
def laws_markPodS.f (l0 : List (S109)) (a1 : Int) : Option (Int) := if l0.length = 0 then some a1 else none
set_option maxHeartbeats 4000000 in
theorem laws_markPodS.calls (A0 : Option Addr) (c0 : Nat) (l0 : List (S109)) (a1 : Int) (r : Int) (w : World) (hr0 : Kd.C k109 w A0 l0.length l0) (hc0 : l0.length ≤ c0) (h : laws_markPodS.f l0 a1 = some r) :
    Calls Try.prog 57 #[.slice A0 l0.length c0, .int .i64 a1] w fun e w' => e = .returned (.int .i64 r) ∧ Below w.heap.size w w' := by
  unfold laws_markPodS.f at h
  by_cases hb : l0.length = 0
  · rw [if_pos hb] at h
    obtain rfl := Option.some.inj h
    rw [hb]
    clear h hr0 hc0 hb
    have HB := Aside0.mk (Below.refl w.heap.size w)
    go_enter Try.func57, Try.ntmps57
    go_wp2
    go_loopg [1, 5] 0 (fun gg v1 v5 w' => v1 = .int .i64 a1 ∧ v5 = .int .i64 0 ∧ Aside0 (Below w.heap.size w w'))
    case atStart => exact ⟨rfl, rfl, ⟨hb_⟩⟩
    case round =>
      clear HB
      obtain ⟨rfl, rfl, HB⟩ := hrel
      go_wp2
      go_ret
      exact ⟨ew_, hb_⟩
  · rw [if_neg hb] at h
    cases h

/-! ### laws_markSeriesS: function 58 -/
def laws_markSeriesS.f (l0 : List (S113)) (a1 : Int) : Option (Int) := if l0.length = 0 then some a1 else none
set_option maxHeartbeats 4000000 in
theorem laws_markSeriesS.calls (A0 : Option Addr) (c0 : Nat) (l0 : List (S113)) (a1 : Int) (r : Int) (w : World) (hr0 : Kd.C k113 w A0 l0.length l0) (hc0 : l0.length ≤ c0) (h : laws_markSeriesS.f l0 a1 = some r) :
    Calls Try.prog 58 #[.slice A0 l0.length c0, .int .i64 a1] w fun e w' => e = .returned (.int .i64 r) ∧ Below w.heap.size w w' := by
  unfold laws_markSeriesS.f at h
  by_cases hb : l0.length = 0
  · rw [if_pos hb] at h
    obtain rfl := Option.some.inj h
    rw [hb]
    clear h hr0 hc0 hb
    have HB := Aside0.mk (Below.refl w.heap.size w)
    go_enter Try.func58, Try.ntmps58
    go_wp2
    go_loopg [1, 5] 0 (fun gg v1 v5 w' => v1 = .int .i64 a1 ∧ v5 = .int .i64 0 ∧ Aside0 (Below w.heap.size w w'))
    case atStart => exact ⟨rfl, rfl, ⟨hb_⟩⟩
    case round =>
      clear HB
      obtain ⟨rfl, rfl, HB⟩ := hrel
      go_wp2
      go_ret
      exact ⟨ew_, hb_⟩
  · rw [if_neg hb] at h
    cases h

/-! ### laws_markNoteS: function 59 -/
def laws_markNoteS.f (l0 : List (S116)) (a1 : Int) : Option (Int) := if l0.length = 0 then some a1 else none
set_option maxHeartbeats 4000000 in
theorem laws_markNoteS.calls (A0 : Option Addr) (c0 : Nat) (l0 : List (S116)) (a1 : Int) (r : Int) (w : World) (hr0 : Kd.C k116 w A0 l0.length l0) (hc0 : l0.length ≤ c0) (h : laws_markNoteS.f l0 a1 = some r) :
    Calls Try.prog 59 #[.slice A0 l0.length c0, .int .i64 a1] w fun e w' => e = .returned (.int .i64 r) ∧ Below w.heap.size w w' := by
  unfold laws_markNoteS.f at h
  by_cases hb : l0.length = 0
  · rw [if_pos hb] at h
    obtain rfl := Option.some.inj h
    rw [hb]
    clear h hr0 hc0 hb
    have HB := Aside0.mk (Below.refl w.heap.size w)
    go_enter Try.func59, Try.ntmps59
    go_wp2
    go_loopg [1, 5] 0 (fun gg v1 v5 w' => v1 = .int .i64 a1 ∧ v5 = .int .i64 0 ∧ Aside0 (Below w.heap.size w w'))
    case atStart => exact ⟨rfl, rfl, ⟨hb_⟩⟩
    case round =>
      clear HB
      obtain ⟨rfl, rfl, HB⟩ := hrel
      go_wp2
      go_ret
      exact ⟨ew_, hb_⟩
  · rw [if_neg hb] at h
    cases h

/-! ### laws_markMoveS: function 60 -/
def laws_markMoveS.f (l0 : List (S119)) (a1 : Int) : Option (Int) := if l0.length = 0 then some a1 else none
set_option maxHeartbeats 4000000 in
theorem laws_markMoveS.calls (A0 : Option Addr) (c0 : Nat) (l0 : List (S119)) (a1 : Int) (r : Int) (w : World) (hr0 : Kd.C k119 w A0 l0.length l0) (hc0 : l0.length ≤ c0) (h : laws_markMoveS.f l0 a1 = some r) :
    Calls Try.prog 60 #[.slice A0 l0.length c0, .int .i64 a1] w fun e w' => e = .returned (.int .i64 r) ∧ Below w.heap.size w w' := by
  unfold laws_markMoveS.f at h
  by_cases hb : l0.length = 0
  · rw [if_pos hb] at h
    obtain rfl := Option.some.inj h
    rw [hb]
    clear h hr0 hc0 hb
    have HB := Aside0.mk (Below.refl w.heap.size w)
    go_enter Try.func60, Try.ntmps60
    go_wp2
    go_loopg [1, 5] 0 (fun gg v1 v5 w' => v1 = .int .i64 a1 ∧ v5 = .int .i64 0 ∧ Aside0 (Below w.heap.size w w'))
    case atStart => exact ⟨rfl, rfl, ⟨hb_⟩⟩
    case round =>
      clear HB
      obtain ⟨rfl, rfl, HB⟩ := hrel
      go_wp2
      go_ret
      exact ⟨ew_, hb_⟩
  · rw [if_neg hb] at h
    cases h

end Go.Proofs.Ytblfoelddakelaa.H
