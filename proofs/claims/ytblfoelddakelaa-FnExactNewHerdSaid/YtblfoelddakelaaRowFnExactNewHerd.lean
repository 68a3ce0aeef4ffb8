/- The row of the law FnExactNewHerd: for every argument that can be read as data the call returns true and the arguments read as before.
   Conditions: none. -/
import Derived.Test.YtblfoelddakelaaRows
import Derived.Test.YtblfoelddakelaaH48
import Derived.Test.YtblfoelddakelaaPureFnExactNewHerd
import Derived.Test.YtblfoelddakelaaOpen
import Derived.WalkKit
import Derived.ProofKit
import Derived.OpenShut
import Derived.ShutString
import Derived.ChangeOld
import Derived.Below
import Derived.SizedLaws
namespace Go.Proofs.Ytblfoelddakelaa.fnExactNewHerd
open Go.ChangeShapes Go.WideShapes Go.ChangeAt Go.RowKit Go.Proofs.Ytblfoelddakelaa.Op Go.Proofs.Ytblfoelddakelaa.H Go.Proofs.YtblfoelddakelaaW.PrintWords
open Go.ChangeMaps (open_string shut_string)
set_option linter.unusedVariables false
theorem own : ownKnob Try.prog.godebug = none := by kernel_rfl
theorem laidOut : laidOutB Try.prog = true := by kernel_rfl
theorem oT38 : Opens Try.prog 38 (Kd.pair (Kd.int .i64) (Kd.pair (Kd.int .i64) (Kd.int .i64))) (fun p => ((Lit.int .i64 p.1).wf = true ∧ (Lit.int .i64 p.2.1).wf = true ∧ (Lit.int .i64 p.2.2).wf = true)) := opens_struct Try.underlying38 (by kernel_rfl) (seg_cons 3 (by rfl) (by rfl) (by kernel_rfl) (by rfl) (opens_int Try.underlying3) (seg_cons 3 (by rfl) (by rfl) (by kernel_rfl) (by rfl) (opens_int Try.underlying3) (seg_one 3 (by rfl) (by rfl) (by kernel_rfl) (opens_int Try.underlying3))))
theorem oT98 : Opens Try.prog 98 (Kd.pair Kd.string (Kd.pair (Kd.int .i64) (Kd.int .i64))) (fun p => (p.1.size ≤ 9223372036854775807 ∧ (Lit.int .i64 p.2.1).wf = true ∧ (Lit.int .i64 p.2.2).wf = true)) := opens_struct Try.underlying98 (by kernel_rfl) (seg_cons 9 (by rfl) (by rfl) (by kernel_rfl) (by rfl) (opens_string Try.underlying9) (seg_cons 3 (by rfl) (by rfl) (by kernel_rfl) (by rfl) (opens_int Try.underlying3) (seg_one 3 (by rfl) (by rfl) (by kernel_rfl) (opens_int Try.underlying3))))
theorem oK98 : Opens Try.prog 98 k98 (fun x => x.f0.size ≤ 9223372036854775807 ∧ (Lit.int .i64 x.f1).wf = true ∧ (Lit.int .i64 x.f2).wf = true) := opens_iso (fun p => ⟨p.1, p.2.1, p.2.2⟩) (fun _ => rfl) oT98
theorem oT132 : Opens Try.prog 132 (Kd.pair (Kd.int .i64) (Kd.pair (Kd.int .i64) (Kd.int .i64))) (fun p => ((Lit.int .i64 p.1).wf = true ∧ (Lit.int .i64 p.2.1).wf = true ∧ (Lit.int .i64 p.2.2).wf = true)) := opens_struct Try.underlying132 (by kernel_rfl) (seg_cons 3 (by rfl) (by rfl) (by kernel_rfl) (by rfl) (opens_int Try.underlying3) (seg_cons 3 (by rfl) (by rfl) (by kernel_rfl) (by rfl) (opens_int Try.underlying3) (seg_one 3 (by rfl) (by rfl) (by kernel_rfl) (opens_int Try.underlying3))))
theorem oK132 : Opens Try.prog 132 k132 (fun x => (Lit.int .i64 x.f0).wf = true ∧ (Lit.int .i64 x.f1).wf = true ∧ (Lit.int .i64 x.f2).wf = true) := opens_iso (fun p => ⟨p.1, p.2.1, p.2.2⟩) (fun _ => rfl) oT132
theorem oT42 : Opens Try.prog 42 (Kd.pair (Kd.slice 132 k132) (Kd.pair (Kd.int .i64) (Kd.int .i64))) (fun p => ((p.1.length ≤ 9223372036854775807 ∧ ∀ x ∈ p.1, ((Lit.int .i64 x.f0).wf = true ∧ (Lit.int .i64 x.f1).wf = true ∧ (Lit.int .i64 x.f2).wf = true)) ∧ (Lit.int .i64 p.2.1).wf = true ∧ (Lit.int .i64 p.2.2).wf = true)) := opens_struct Try.underlying42 (by kernel_rfl) (seg_cons 40 (by rfl) (by rfl) (by kernel_rfl) (by rfl) (opens_slice Try.underlying40 (by kernel_rfl) oK132) (seg_cons 3 (by rfl) (by rfl) (by kernel_rfl) (by rfl) (opens_int Try.underlying3) (seg_one 3 (by rfl) (by rfl) (by kernel_rfl) (opens_int Try.underlying3))))
theorem oT44 : Opens Try.prog 44 (Kd.pair (Kd.pair (Kd.slice 132 k132) (Kd.pair (Kd.int .i64) (Kd.int .i64))) (Kd.pair (Kd.pair (Kd.slice 132 k132) (Kd.pair (Kd.int .i64) (Kd.int .i64))) (Kd.pair (Kd.int .i64) (Kd.int .i64)))) (fun p => (((p.1.1.length ≤ 9223372036854775807 ∧ ∀ x ∈ p.1.1, ((Lit.int .i64 x.f0).wf = true ∧ (Lit.int .i64 x.f1).wf = true ∧ (Lit.int .i64 x.f2).wf = true)) ∧ (Lit.int .i64 p.1.2.1).wf = true ∧ (Lit.int .i64 p.1.2.2).wf = true) ∧ ((p.2.1.1.length ≤ 9223372036854775807 ∧ ∀ x ∈ p.2.1.1, ((Lit.int .i64 x.f0).wf = true ∧ (Lit.int .i64 x.f1).wf = true ∧ (Lit.int .i64 x.f2).wf = true)) ∧ (Lit.int .i64 p.2.1.2.1).wf = true ∧ (Lit.int .i64 p.2.1.2.2).wf = true) ∧ (Lit.int .i64 p.2.2.1).wf = true ∧ (Lit.int .i64 p.2.2.2).wf = true)) := opens_struct Try.underlying44 (by kernel_rfl) (seg_cons 42 (by rfl) (by rfl) (by kernel_rfl) (by rfl) oT42 (seg_cons 42 (by rfl) (by rfl) (by kernel_rfl) (by rfl) oT42 (seg_cons 3 (by rfl) (by rfl) (by kernel_rfl) (by rfl) (opens_int Try.underlying3) (seg_one 3 (by rfl) (by rfl) (by kernel_rfl) (opens_int Try.underlying3)))))
theorem oT46 : Opens Try.prog 46 (Kd.pair (Kd.pair (Kd.int .i64) (Kd.pair (Kd.int .i64) (Kd.int .i64))) (Kd.pair (Kd.slice 98 k98) (Kd.pair (Kd.pair (Kd.slice 132 k132) (Kd.pair (Kd.int .i64) (Kd.int .i64))) (Kd.pair (Kd.pair (Kd.slice 132 k132) (Kd.pair (Kd.int .i64) (Kd.int .i64))) (Kd.pair (Kd.int .i64) (Kd.int .i64)))))) (fun p => (((Lit.int .i64 p.1.1).wf = true ∧ (Lit.int .i64 p.1.2.1).wf = true ∧ (Lit.int .i64 p.1.2.2).wf = true) ∧ (p.2.1.length ≤ 9223372036854775807 ∧ ∀ x ∈ p.2.1, (x.f0.size ≤ 9223372036854775807 ∧ (Lit.int .i64 x.f1).wf = true ∧ (Lit.int .i64 x.f2).wf = true)) ∧ (((p.2.2.1.1.length ≤ 9223372036854775807 ∧ ∀ x ∈ p.2.2.1.1, ((Lit.int .i64 x.f0).wf = true ∧ (Lit.int .i64 x.f1).wf = true ∧ (Lit.int .i64 x.f2).wf = true)) ∧ (Lit.int .i64 p.2.2.1.2.1).wf = true ∧ (Lit.int .i64 p.2.2.1.2.2).wf = true) ∧ ((p.2.2.2.1.1.length ≤ 9223372036854775807 ∧ ∀ x ∈ p.2.2.2.1.1, ((Lit.int .i64 x.f0).wf = true ∧ (Lit.int .i64 x.f1).wf = true ∧ (Lit.int .i64 x.f2).wf = true)) ∧ (Lit.int .i64 p.2.2.2.1.2.1).wf = true ∧ (Lit.int .i64 p.2.2.2.1.2.2).wf = true) ∧ (Lit.int .i64 p.2.2.2.2.1).wf = true ∧ (Lit.int .i64 p.2.2.2.2.2).wf = true))) := opens_struct Try.underlying46 (by kernel_rfl) (seg_cons 38 (by rfl) (by rfl) (by kernel_rfl) (by rfl) oT38 (seg_cons 39 (by rfl) (by rfl) (by kernel_rfl) (by rfl) (opens_slice Try.underlying39 (by kernel_rfl) oK98) (seg_one 44 (by rfl) (by rfl) (by kernel_rfl) oT44)))
set_option maxRecDepth 100000 in
theorem lifted (os : Os) (started : os.Started) (H : Type) (enc : TypeId × Value → H) :
    ReturnsInHanded {} Try.checked os 7 .any (Rows.fnExactNewHerdSpec.pre6 enc Try.prog Try.f7 Rows.fnExactNewHerdRow.domain false) (Rows.fnExactNewHerdSpec.post enc Try.prog Try.f7 false true false false) := by
  refine returnsInHanded_of_change_sized (C := Try.checked) own started (by kernel_rfl) Try.func7
    (ChangeSpec.witness6 (enc := enc) (C := Try.checked) false ⟨#[], #[.agg #[.int .i64 0, .int .i64 0, .int .i64 0, .slice none 0 0, .slice none 0 0, .int .i64 0, .int .i64 0, .slice none 0 0, .int .i64 0, .int .i64 0, .int .i64 0, .int .i64 0], .int .i64 0], []⟩ 8 (by kernel_rfl) (by kernel_rfl) (by kernel_rfl) (by kernel_rfl)) ?_
  intro W base args ds gs before hval0 hW hcnd hsz0 _
  have hval : ∀ (j : Nat) t v, Try.f7.params[j]? = some t → args[j]? = some v → Value.okWide Try.prog W .any base t v := hval0
  have hW' := hW
  obtain ⟨p, q, hA0, hV, rfl, hfz, hnd⟩ := hW
  have hA : DataW.TrodAll enc Try.prog W 0 (fun _ => true) true Try.f7.params.toList args.toList ds p := hA0
  rw [Try.params7] at hA hval
  obtain ⟨v0, vs0, d0, ds0, p0, q0, hargs, rfl, rfl, h0, r0⟩ := trodAll_cons hA
  obtain ⟨v1, vs1, d1, ds1, p1, q1, rfl, rfl, rfl, h1, r1⟩ := trodAll_cons r0
  obtain ⟨rfl, rfl, rfl⟩ := trodAll_nil r1
  obtain rfl : args = #[v0, v1] := by cases args; simp_all
  obtain ⟨rfl, rfl⟩ := trodVars_none hV
  obtain ⟨cs0, rfl, _⟩ := okWide_struct Try.underlying46 (hval 0 46 v0 rfl rfl)
  obtain ⟨cl0⟩ := cs0
  have k0 := h0
  have lt0 : ∀ x ∈ p0, x.block < W.heap.size := by obtain ⟨m, hm⟩ := k0; exact DataW.trod_lt m _ _ _ hm
  obtain ⟨fu0, hf0⟩ := h0
  obtain ⟨⟨⟨a0_0, a0_1, a0_2⟩, l0_3, ⟨⟨l0_4, a0_5, a0_6⟩, ⟨l0_7, a0_8, a0_9⟩, a0_10, a0_11⟩⟩, hK0, hB0⟩ := oT46 _ _ _ _ _ _ _ _ _ hf0
  obtain ⟨_, _, he0, ⟨_, _, rfl, rfl, ⟨_, _, rfl, rfl, rfl⟩⟩, ⟨_, _, rfl, ⟨A0_3, c0_3, rfl, hl0_3, hC0_3⟩, ⟨_, _, rfl, ⟨_, _, rfl, ⟨A0_4, c0_4, rfl, hl0_4, hC0_4⟩, ⟨_, _, rfl, rfl, rfl⟩⟩, ⟨_, _, rfl, ⟨_, _, rfl, ⟨A0_7, c0_7, rfl, hl0_7, hC0_7⟩, ⟨_, _, rfl, rfl, rfl⟩⟩, ⟨_, _, rfl, rfl, rfl⟩⟩⟩⟩⟩ := hK0
  replace he0 : cl0 = _ := he0
  simp only [List.cons_append, List.nil_append] at he0
  subst he0
  obtain ⟨a1, rfl, rfl, rfl, w1⟩ := open_int Try.underlying3 (hval 1 3 v1 rfl rfl) h1
  clear hA0 hval0 hsz0
  obtain ⟨k, hk⟩ := Pure.FnExactNewHerd a0_0 a0_1 a0_2 l0_3 l0_4 a0_5 a0_6 l0_7 a0_8 a0_9 a0_10 a0_11 a1 (hB0.1.1) (hB0.1.2.1) (hB0.1.2.2) (hB0.2.1) (hB0.2.2.1.1) (hB0.2.2.1.2.1) (hB0.2.2.1.2.2) (hB0.2.2.2.1.1) (hB0.2.2.2.1.2.1) (hB0.2.2.2.1.2.2) (hB0.2.2.2.2.1) (hB0.2.2.2.2.2) w1
  refine (laws_FnExactNewHerd.calls k a0_0 a0_1 a0_2 A0_3 c0_3 l0_3 A0_4 c0_4 l0_4 a0_5 a0_6 A0_7 c0_7 l0_7 a0_8 a0_9 a0_10 a0_11 a1 true ⟨rfl⟩ W hC0_3 hl0_3 hC0_4 hl0_4 hC0_7 hl0_7 hk).mono fun e W' ⟨he, bel0⟩ => ?_
  have bel := bel0
  subst he
  exact ⟨_, rfl, _, _, _, [], _, [], hW', trodAll_mk1 (shut_bool Try.underlying4 _), (trodAll_cons_mk (Below.trod laidOut (by kernel_rfl) (of_decide_eq_true (by kernel_rfl)) k0 bel lt0) (trodAll_cons_mk (shut_int Try.underlying3 w1) trodAll_mk0)), rfl, bel.frame _, fun h => by cases h⟩
theorem over : Rows.fnExactNewHerdRow.holds Try.pinned (OpenSpec.ofChange Rows.fnExactNewHerdSpec) :=
  OpenClaim.holds_of_wide 7 Try.f7 rfl rfl rfl rfl rfl rfl rfl ⟨rfl, rfl, rfl, rfl, rfl⟩ rfl rfl rfl rfl rfl (by kernel_rfl) Try.func7 (by kernel_rfl)
    (of_decide_eq_true (by kernel_rfl)) (by unfold Func.isWrapper; first | (rw [if_pos (by decide +kernel)]; kernel_rfl) | (rw [if_neg (by decide +kernel)]; exact ⟨rfl, rfl⟩))
    (fun os started H enc _ => lifted os started H enc)
end Go.Proofs.Ytblfoelddakelaa.fnExactNewHerd
namespace Go.Proofs.Ytblfoelddakelaa
theorem fnExactNewHerd_holds : Rows.FnExactNewHerdSaid := fnExactNewHerd.over
#print axioms fnExactNewHerd_holds
end Go.Proofs.Ytblfoelddakelaa
