/- The row of the law FnExactTrimNotes: for every argument that can be read as data the call returns true and the arguments read as before.
   Conditions: none. -/
import Derived.Test.YtfjjlipfjddaiaaRows
import Derived.Test.YtfjjlipfjddaiaaU33
import Derived.Test.YtfjjlipfjddaiaaPureFnExactTrimNotes
import Derived.Test.YtfjjlipfjddaiaaOpen
import Derived.WalkKit
import Derived.ProofKit
import Derived.OpenShut
import Derived.ShutString
import Derived.ChangeOld
import Derived.Below
import Derived.SizedLaws
namespace Go.Proofs.Ytfjjlipfjddaiaa.fnExactTrimNotes
open Go.ChangeShapes Go.WideShapes Go.ChangeAt Go.RowKit Go.Proofs.Ytfjjlipfjddaiaa.Op Go.Proofs.Ytfjjlipfjddaiaa.U Go.Proofs.YtfjjlipfjddaiaaW.PrintWords
open Go.ChangeMaps (open_string shut_string)
set_option linter.unusedVariables false
theorem own : ownKnob Try.prog.godebug = none := by kernel_rfl
theorem laidOut : laidOutB Try.prog = true := by kernel_rfl
theorem oT111 : Opens Try.prog 111 (Kd.pair (Kd.int .i64) (Kd.int .i64)) (fun p => ((Lit.int .i64 p.1).wf = true ∧ (Lit.int .i64 p.2).wf = true)) := opens_struct Try.underlying111 (by kernel_rfl) (seg_cons 3 (by rfl) (by rfl) (by kernel_rfl) (by rfl) (opens_int Try.underlying3) (seg_one 3 (by rfl) (by rfl) (by kernel_rfl) (opens_int Try.underlying3)))
theorem oK111 : Opens Try.prog 111 k111 (fun x => (Lit.int .i64 x.f0).wf = true ∧ (Lit.int .i64 x.f1).wf = true) := opens_iso (fun p => ⟨p.1, p.2⟩) (fun _ => rfl) oT111
set_option maxRecDepth 100000 in
theorem lifted (os : Os) (started : os.Started) (H : Type) (enc : TypeId × Value → H) :
    ReturnsInHanded {} Try.checked os 6 .any (Rows.fnExactTrimNotesSpec.pre6 enc Try.prog Try.f6 Rows.fnExactTrimNotesRow.domain false) (Rows.fnExactTrimNotesSpec.post enc Try.prog Try.f6 false true false false) := by
  refine returnsInHanded_of_change_sized (C := Try.checked) own started (by kernel_rfl) Try.func6
    (ChangeSpec.witness6 (enc := enc) (C := Try.checked) false ⟨#[], #[.slice none 0 0, .int .i64 0, .int .i64 0], []⟩ 8 (by kernel_rfl) (by kernel_rfl) (by kernel_rfl) (by kernel_rfl)) ?_
  intro W base args ds gs before hval0 hW hcnd hsz0 _
  have hval : ∀ (j : Nat) t v, Try.f6.params[j]? = some t → args[j]? = some v → Value.okWide Try.prog W .any base t v := hval0
  have hW' := hW
  obtain ⟨p, q, hA0, hV, rfl, hfz, hnd⟩ := hW
  have hA : DataW.TrodAll enc Try.prog W 0 (fun _ => true) true Try.f6.params.toList args.toList ds p := hA0
  rw [Try.params6] at hA hval
  obtain ⟨v0, vs0, d0, ds0, p0, q0, hargs, rfl, rfl, h0, r0⟩ := trodAll_cons hA
  obtain ⟨v1, vs1, d1, ds1, p1, q1, rfl, rfl, rfl, h1, r1⟩ := trodAll_cons r0
  obtain ⟨v2, vs2, d2, ds2, p2, q2, rfl, rfl, rfl, h2, r2⟩ := trodAll_cons r1
  obtain ⟨rfl, rfl, rfl⟩ := trodAll_nil r2
  obtain rfl : args = #[v0, v1, v2] := by cases args; simp_all
  obtain ⟨rfl, rfl⟩ := trodVars_none hV
  obtain ⟨a0_, len0_, cap0_, rfl⟩ := okWide_slice Try.underlying49 (hval 0 49 v0 rfl rfl)
  have k0 := h0
  have lt0 : ∀ x ∈ p0, x.block < W.heap.size := by obtain ⟨m, hm⟩ := k0; exact DataW.trod_lt m _ _ _ hm
  obtain ⟨fu0, hf0⟩ := h0
  obtain ⟨l0, ⟨A0, c0, he0, hl0, hC0⟩, hB0⟩ := (show Opens Try.prog 49 (Kd.slice 111 k111) _ from (opens_slice Try.underlying49 (by kernel_rfl) oK111)) _ _ _ _ _ _ _ _ _ hf0
  simp [Value.cells] at he0
  obtain ⟨rfl, rfl, rfl⟩ := he0
  obtain ⟨a1, rfl, rfl, rfl, w1⟩ := open_int Try.underlying3 (hval 1 3 v1 rfl rfl) h1
  obtain ⟨a2, rfl, rfl, rfl, w2⟩ := open_int Try.underlying3 (hval 2 3 v2 rfl rfl) h2
  clear hA0 hval0 hsz0
  obtain ⟨k, hk⟩ := Pure.FnExactTrimNotes l0 a1 a2 hB0 w1 w2
  refine (laws_FnExactTrimNotes.calls k a0_ cap0_ l0 a1 a2 true ⟨rfl⟩ W hC0 hl0 hk).mono fun e W' ⟨he, bel0⟩ => ?_
  have bel := bel0
  subst he
  exact ⟨_, rfl, _, _, _, [], _, [], hW', trodAll_mk1 (shut_bool Try.underlying4 _), (trodAll_cons_mk (Below.trod laidOut (by kernel_rfl) (of_decide_eq_true (by kernel_rfl)) k0 bel lt0) (trodAll_cons_mk (shut_int Try.underlying3 w1) (trodAll_cons_mk (shut_int Try.underlying3 w2) trodAll_mk0))), rfl, bel.frame _, fun h => by cases h⟩
theorem over : Rows.fnExactTrimNotesRow.holds Try.pinned (OpenSpec.ofChange Rows.fnExactTrimNotesSpec) :=
  OpenClaim.holds_of_wide 6 Try.f6 rfl rfl rfl rfl rfl rfl rfl ⟨rfl, rfl, rfl, rfl, rfl⟩ rfl rfl rfl rfl rfl (by kernel_rfl) Try.func6 (by kernel_rfl)
    (of_decide_eq_true (by kernel_rfl)) (by unfold Func.isWrapper; first | (rw [if_pos (by decide +kernel)]; kernel_rfl) | (rw [if_neg (by decide +kernel)]; exact ⟨rfl, rfl⟩))
    (fun os started H enc _ => lifted os started H enc)
end Go.Proofs.Ytfjjlipfjddaiaa.fnExactTrimNotes
namespace Go.Proofs.Ytfjjlipfjddaiaa
theorem fnExactTrimNotes_holds : Rows.FnExactTrimNotesSaid := fnExactTrimNotes.over
#print axioms fnExactTrimNotes_holds
end Go.Proofs.Ytfjjlipfjddaiaa
