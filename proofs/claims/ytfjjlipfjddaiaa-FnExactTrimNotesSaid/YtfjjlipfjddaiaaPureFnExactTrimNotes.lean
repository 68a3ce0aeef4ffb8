/- For every list of notes, every time and every window the law of TrimNotes answers true.
   Conditions: none. -/
import Derived.Test.YtfjjlipfjddaiaaU33
import Derived.Test.YtfjjlipfjddaiaaCvNote
import Derived.Test.YtfjjlipfjddaiaaTrimNotes
import Derived.Test.YtfjjlipfjddaiaaMarkNote
namespace Go.Proofs.Ytfjjlipfjddaiaa.Pure
open Go.RowKit Go.Proofs.YtfjjlipfjddaiaaW.PrintWords Go.Proofs.YtfjjlipfjddaiaaW.PrintMore Go.Proofs.Ytfjjlipfjddaiaa.U Go.Proofs.Ytfjjlipfjddaiaa.Base
theorem FnExactTrimNotes : ∀ (l0 : List S111) (a1 : Int) (a2 : Int), (l0.length ≤ 9223372036854775807 ∧ ∀ x ∈ l0, ((Lit.int .i64 x.f0).wf = true ∧ (Lit.int .i64 x.f1).wf = true)) → (Lit.int .i64 a1).wf = true → (Lit.int .i64 a2).wf = true → ∃ k, laws_FnExactTrimNotes.f k l0 a1 a2 = some true := by
  intro l now win hl _ _
  apply Ev.rounds (g := fun k => laws_FnExactTrimNotes.f k l now win)
  unfold laws_FnExactTrimNotes.f laws_szNoteS.f
  rw [sz_len hl.1 (by omega) (by omega)]
  by_cases h0 : (1048576 : Int) - l.length < 0
  · rw [if_pos h0]
    exact Ev.now true
  · rw [if_neg h0]
    refine Ev.bind0 rfl (Ev.neg h0 ?_)
    have hlen : l.length ≤ 1048576 := by omega
    have hlen' : (l.map cvNote).length ≤ 1048576 := by rw [List.length_map]; exact hlen
    have ht : (trimNotes (l.map cvNote) now win).length ≤ 1048576 := Nat.le_trans (trimNotes_len _ _ _) (by omega)
    have hm := ev_markNoteS (l.map cvNote) hlen' 1 (by omega) (by omega)
    have hg := ev_markNoteS (trimNotes (l.map cvNote) now win) ht 1 (by omega) (by omega)
    have hh := ev_heldNoteS (trimNotes (l.map cvNote) now win).length ht 1 (by omega) (by omega)
    refine Ev.bind (ev_toNoteS l hlen) (Ev.bind (trimNotes_spec _ hlen' now win) (Ev.bind (ev_toNoteS l hlen) (Ev.bind (trimNotes_impl _ hlen' now win) (Ev.bind (ev_eqNoteS _ ht) (Ev.pos rfl (Ev.bind (ev_toNoteS l hlen) (Ev.bind (ev_eqNoteS _ hlen') (Ev.pos rfl (Ev.bind hm (Ev.neg (by show ¬ (1 + 2 * ((l.map cvNote).length : Int) < 0); omega) (Ev.bind (ev_eqNoteS _ ht) ?_)))))))))))
    refine Ev.step (f := fun k => (laws_markNoteS.f k (trimNotes (l.map cvNote) now win) 1).bind fun b => ((laws_heldNoteS.f k b.2 1).bind fun t => (if t < 0 then (some false) else (if t = b.1 then ((laws_toNoteS.f k l).bind fun t0 => ((impl_TrimNotes.f k t0 now win).bind fun t3 => ((laws_eqNoteS.f k t3 (trimNotes (l.map cvNote) now win)).bind fun t6 => (if t6 = true then ((laws_heldNoteS.f k b.2 1).bind fun t7 => (if t7 < 0 then (some false) else (if t7 = b.1 then (some true) else (some false)))) else (some false))))) else (some false))))) (fun k => by simp [laws_FnExactTrimNotes.j0]) ?_
    refine Ev.bind hg (Ev.bind hh (Ev.neg (by omega) (Ev.pos rfl (Ev.bind (ev_toNoteS l hlen) (Ev.bind (trimNotes_impl _ hlen' now win) (Ev.bind (ev_eqNoteS _ ht) (Ev.pos rfl (Ev.bind hh (Ev.neg (by omega) (Ev.pos rfl ?_))))))))))
    exact Ev.now true
end Go.Proofs.Ytfjjlipfjddaiaa.Pure
