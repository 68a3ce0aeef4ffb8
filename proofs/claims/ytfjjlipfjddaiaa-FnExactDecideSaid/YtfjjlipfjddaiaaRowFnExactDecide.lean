/- The row of the law FnExactDecide: for every argument that can be read as data the call returns true and the arguments read as before.
   Conditions: none. -/
import Derived.Test.YtfjjlipfjddaiaaRows
import Derived.Test.YtfjjlipfjddaiaaU53
import Derived.Test.YtfjjlipfjddaiaaPureFnExactDecide
import Derived.Test.YtfjjlipfjddaiaaOpen
import Derived.WalkKit
import Derived.ProofKit
import Derived.OpenShut
import Derived.ShutString
import Derived.ChangeOld
import Derived.Below
import Derived.SizedLaws
namespace Go.Proofs.Ytfjjlipfjddaiaa.fnExactDecide
open Go.ChangeShapes Go.WideShapes Go.ChangeAt Go.RowKit Go.Proofs.Ytfjjlipfjddaiaa.Op Go.Proofs.Ytfjjlipfjddaiaa.U Go.Proofs.YtfjjlipfjddaiaaW.PrintWords
open Go.ChangeMaps (open_string shut_string)
set_option linter.unusedVariables false
theorem own : ownKnob Try.prog.godebug = none := by kernel_rfl
theorem laidOut : laidOutB Try.prog = true := by kernel_rfl
theorem oT125 : Opens Try.prog 125 (Kd.pair (Kd.int .i64) (Kd.pair (Kd.int .i64) (Kd.int .i64))) (fun p => ((Lit.int .i64 p.1).wf = true ∧ (Lit.int .i64 p.2.1).wf = true ∧ (Lit.int .i64 p.2.2).wf = true)) := opens_struct Try.underlying125 (by kernel_rfl) (seg_cons 3 (by rfl) (by rfl) (by kernel_rfl) (by rfl) (opens_int Try.underlying3) (seg_cons 3 (by rfl) (by rfl) (by kernel_rfl) (by rfl) (opens_int Try.underlying3) (seg_one 3 (by rfl) (by rfl) (by kernel_rfl) (opens_int Try.underlying3))))
theorem oK125 : Opens Try.prog 125 k125 (fun x => (Lit.int .i64 x.f0).wf = true ∧ (Lit.int .i64 x.f1).wf = true ∧ (Lit.int .i64 x.f2).wf = true) := opens_iso (fun p => ⟨p.1, p.2.1, p.2.2⟩) (fun _ => rfl) oT125
theorem oT58 : Opens Try.prog 58 (Kd.pair (Kd.slice 125 k125) (Kd.pair (Kd.int .i64) (Kd.int .i64))) (fun p => ((p.1.length ≤ 9223372036854775807 ∧ ∀ x ∈ p.1, ((Lit.int .i64 x.f0).wf = true ∧ (Lit.int .i64 x.f1).wf = true ∧ (Lit.int .i64 x.f2).wf = true)) ∧ (Lit.int .i64 p.2.1).wf = true ∧ (Lit.int .i64 p.2.2).wf = true)) := opens_struct Try.underlying58 (by kernel_rfl) (seg_cons 56 (by rfl) (by rfl) (by kernel_rfl) (by rfl) (opens_slice Try.underlying56 (by kernel_rfl) oK125) (seg_cons 3 (by rfl) (by rfl) (by kernel_rfl) (by rfl) (opens_int Try.underlying3) (seg_one 3 (by rfl) (by rfl) (by kernel_rfl) (opens_int Try.underlying3))))
theorem oT60 : Opens Try.prog 60 (Kd.pair (Kd.pair (Kd.slice 125 k125) (Kd.pair (Kd.int .i64) (Kd.int .i64))) (Kd.pair (Kd.pair (Kd.slice 125 k125) (Kd.pair (Kd.int .i64) (Kd.int .i64))) (Kd.pair (Kd.int .i64) (Kd.int .i64)))) (fun p => (((p.1.1.length ≤ 9223372036854775807 ∧ ∀ x ∈ p.1.1, ((Lit.int .i64 x.f0).wf = true ∧ (Lit.int .i64 x.f1).wf = true ∧ (Lit.int .i64 x.f2).wf = true)) ∧ (Lit.int .i64 p.1.2.1).wf = true ∧ (Lit.int .i64 p.1.2.2).wf = true) ∧ ((p.2.1.1.length ≤ 9223372036854775807 ∧ ∀ x ∈ p.2.1.1, ((Lit.int .i64 x.f0).wf = true ∧ (Lit.int .i64 x.f1).wf = true ∧ (Lit.int .i64 x.f2).wf = true)) ∧ (Lit.int .i64 p.2.1.2.1).wf = true ∧ (Lit.int .i64 p.2.1.2.2).wf = true) ∧ (Lit.int .i64 p.2.2.1).wf = true ∧ (Lit.int .i64 p.2.2.2).wf = true)) := opens_struct Try.underlying60 (by kernel_rfl) (seg_cons 58 (by rfl) (by rfl) (by kernel_rfl) (by rfl) oT58 (seg_cons 58 (by rfl) (by rfl) (by kernel_rfl) (by rfl) oT58 (seg_cons 3 (by rfl) (by rfl) (by kernel_rfl) (by rfl) (opens_int Try.underlying3) (seg_one 3 (by rfl) (by rfl) (by kernel_rfl) (opens_int Try.underlying3)))))
theorem oT111 : Opens Try.prog 111 (Kd.pair (Kd.int .i64) (Kd.int .i64)) (fun p => ((Lit.int .i64 p.1).wf = true ∧ (Lit.int .i64 p.2).wf = true)) := opens_struct Try.underlying111 (by kernel_rfl) (seg_cons 3 (by rfl) (by rfl) (by kernel_rfl) (by rfl) (opens_int Try.underlying3) (seg_one 3 (by rfl) (by rfl) (by kernel_rfl) (opens_int Try.underlying3)))
theorem oK111 : Opens Try.prog 111 k111 (fun x => (Lit.int .i64 x.f0).wf = true ∧ (Lit.int .i64 x.f1).wf = true) := opens_iso (fun p => ⟨p.1, p.2⟩) (fun _ => rfl) oT111
theorem oT105 : Opens Try.prog 105 (Kd.pair (Kd.int .i64) (Kd.int .i64)) (fun p => ((Lit.int .i64 p.1).wf = true ∧ (Lit.int .i64 p.2).wf = true)) := opens_struct Try.underlying105 (by kernel_rfl) (seg_cons 3 (by rfl) (by rfl) (by kernel_rfl) (by rfl) (opens_int Try.underlying3) (seg_one 3 (by rfl) (by rfl) (by kernel_rfl) (opens_int Try.underlying3)))
theorem oK105 : Opens Try.prog 105 k105 (fun x => (Lit.int .i64 x.f0).wf = true ∧ (Lit.int .i64 x.f1).wf = true) := opens_iso (fun p => ⟨p.1, p.2⟩) (fun _ => rfl) oT105
set_option maxRecDepth 100000 in
theorem lifted (os : Os) (started : os.Started) (H : Type) (enc : TypeId × Value → H) :
    ReturnsInHanded {} Try.checked os 14 .any (Rows.fnExactDecideSpec.pre6 enc Try.prog Try.f14 Rows.fnExactDecideRow.domain false) (Rows.fnExactDecideSpec.post enc Try.prog Try.f14 false true false false) := by
  refine returnsInHanded_of_change_sized (C := Try.checked) own started (by kernel_rfl) Try.func14
    (ChangeSpec.witness6 (enc := enc) (C := Try.checked) false ⟨#[], #[.agg #[.slice none 0 0, .int .i64 0, .int .i64 0, .slice none 0 0, .int .i64 0, .int .i64 0, .int .i64 0, .int .i64 0], .slice none 0 0, .slice none 0 0, .int .i64 0, .int .i64 0, .int .i64 0], []⟩ 8 (by kernel_rfl) (by kernel_rfl) (by kernel_rfl) (by kernel_rfl)) ?_
  intro W base args ds gs before hval0 hW hcnd hsz0 _
  have hval : ∀ (j : Nat) t v, Try.f14.params[j]? = some t → args[j]? = some v → Value.okWide Try.prog W .any base t v := hval0
  have hW' := hW
  obtain ⟨p, q, hA0, hV, rfl, hfz, hnd⟩ := hW
  have hA : DataW.TrodAll enc Try.prog W 0 (fun _ => true) true Try.f14.params.toList args.toList ds p := hA0
  rw [Try.params14] at hA hval
  obtain ⟨v0, vs0, d0, ds0, p0, q0, hargs, rfl, rfl, h0, r0⟩ := trodAll_cons hA
  obtain ⟨v1, vs1, d1, ds1, p1, q1, rfl, rfl, rfl, h1, r1⟩ := trodAll_cons r0
  obtain ⟨v2, vs2, d2, ds2, p2, q2, rfl, rfl, rfl, h2, r2⟩ := trodAll_cons r1
  obtain ⟨v3, vs3, d3, ds3, p3, q3, rfl, rfl, rfl, h3, r3⟩ := trodAll_cons r2
  obtain ⟨v4, vs4, d4, ds4, p4, q4, rfl, rfl, rfl, h4, r4⟩ := trodAll_cons r3
  obtain ⟨v5, vs5, d5, ds5, p5, q5, rfl, rfl, rfl, h5, r5⟩ := trodAll_cons r4
  obtain ⟨rfl, rfl, rfl⟩ := trodAll_nil r5
  obtain rfl : args = #[v0, v1, v2, v3, v4, v5] := by cases args; simp_all
  obtain ⟨rfl, rfl⟩ := trodVars_none hV
  obtain ⟨cs0, rfl, _⟩ := okWide_struct Try.underlying60 (hval 0 60 v0 rfl rfl)
  obtain ⟨cl0⟩ := cs0
  have k0 := h0
  have lt0 : ∀ x ∈ p0, x.block < W.heap.size := by obtain ⟨m, hm⟩ := k0; exact DataW.trod_lt m _ _ _ hm
  obtain ⟨fu0, hf0⟩ := h0
  obtain ⟨⟨⟨l0_0, a0_1, a0_2⟩, ⟨l0_3, a0_4, a0_5⟩, a0_6, a0_7⟩, hK0, hB0⟩ := oT60 _ _ _ _ _ _ _ _ _ hf0
  obtain ⟨_, _, he0, ⟨_, _, rfl, ⟨A0_0, c0_0, rfl, hl0_0, hC0_0⟩, ⟨_, _, rfl, rfl, rfl⟩⟩, ⟨_, _, rfl, ⟨_, _, rfl, ⟨A0_3, c0_3, rfl, hl0_3, hC0_3⟩, ⟨_, _, rfl, rfl, rfl⟩⟩, ⟨_, _, rfl, rfl, rfl⟩⟩⟩ := hK0
  replace he0 : cl0 = _ := he0
  simp only [List.cons_append, List.nil_append] at he0
  subst he0
  obtain ⟨a1_, len1_, cap1_, rfl⟩ := okWide_slice Try.underlying49 (hval 1 49 v1 rfl rfl)
  have k1 := h1
  have lt1 : ∀ x ∈ p1, x.block < W.heap.size := by obtain ⟨m, hm⟩ := k1; exact DataW.trod_lt m _ _ _ hm
  obtain ⟨fu1, hf1⟩ := h1
  obtain ⟨l1, ⟨A1, c1, he1, hl1, hC1⟩, hB1⟩ := (show Opens Try.prog 49 (Kd.slice 111 k111) _ from (opens_slice Try.underlying49 (by kernel_rfl) oK111)) _ _ _ _ _ _ _ _ _ hf1
  simp [Value.cells] at he1
  obtain ⟨rfl, rfl, rfl⟩ := he1
  obtain ⟨a2_, len2_, cap2_, rfl⟩ := okWide_slice Try.underlying42 (hval 2 42 v2 rfl rfl)
  have k2 := h2
  have lt2 : ∀ x ∈ p2, x.block < W.heap.size := by obtain ⟨m, hm⟩ := k2; exact DataW.trod_lt m _ _ _ hm
  obtain ⟨fu2, hf2⟩ := h2
  obtain ⟨l2, ⟨A2, c2, he2, hl2, hC2⟩, hB2⟩ := (show Opens Try.prog 42 (Kd.slice 105 k105) _ from (opens_slice Try.underlying42 (by kernel_rfl) oK105)) _ _ _ _ _ _ _ _ _ hf2
  simp [Value.cells] at he2
  obtain ⟨rfl, rfl, rfl⟩ := he2
  obtain ⟨a3, rfl, rfl, rfl, w3⟩ := open_int Try.underlying3 (hval 3 3 v3 rfl rfl) h3
  obtain ⟨a4, rfl, rfl, rfl, w4⟩ := open_int Try.underlying3 (hval 4 3 v4 rfl rfl) h4
  obtain ⟨a5, rfl, rfl, rfl, w5⟩ := open_int Try.underlying3 (hval 5 3 v5 rfl rfl) h5
  clear hA0 hval0 hsz0
  obtain ⟨k, hk⟩ := Pure.FnExactDecide l0_0 a0_1 a0_2 l0_3 a0_4 a0_5 a0_6 a0_7 l1 l2 a3 a4 a5 (hB0.1.1) (hB0.1.2.1) (hB0.1.2.2) (hB0.2.1.1) (hB0.2.1.2.1) (hB0.2.1.2.2) (hB0.2.2.1) (hB0.2.2.2) hB1 hB2 w3 w4 w5
  refine (laws_FnExactDecide.calls k A0_0 c0_0 l0_0 a0_1 a0_2 A0_3 c0_3 l0_3 a0_4 a0_5 a0_6 a0_7 a1_ cap1_ l1 a2_ cap2_ l2 a3 a4 a5 true ⟨rfl⟩ W hC0_0 hl0_0 hC0_3 hl0_3 hC1 hl1 hC2 hl2 hk).mono fun e W' ⟨he, bel0⟩ => ?_
  have bel := bel0
  subst he
  exact ⟨_, rfl, _, _, _, [], _, [], hW', trodAll_mk1 (shut_bool Try.underlying4 _), (trodAll_cons_mk (Below.trod laidOut (by kernel_rfl) (of_decide_eq_true (by kernel_rfl)) k0 bel lt0) (trodAll_cons_mk (Below.trod laidOut (by kernel_rfl) (of_decide_eq_true (by kernel_rfl)) k1 bel lt1) (trodAll_cons_mk (Below.trod laidOut (by kernel_rfl) (of_decide_eq_true (by kernel_rfl)) k2 bel lt2) (trodAll_cons_mk (shut_int Try.underlying3 w3) (trodAll_cons_mk (shut_int Try.underlying3 w4) (trodAll_cons_mk (shut_int Try.underlying3 w5) trodAll_mk0)))))), rfl, bel.frame _, fun h => by cases h⟩
theorem over : Rows.fnExactDecideRow.holds Try.pinned (OpenSpec.ofChange Rows.fnExactDecideSpec) :=
  OpenClaim.holds_of_wide 14 Try.f14 rfl rfl rfl rfl rfl rfl rfl ⟨rfl, rfl, rfl, rfl, rfl⟩ rfl rfl rfl rfl rfl (by kernel_rfl) Try.func14 (by kernel_rfl)
    (of_decide_eq_true (by kernel_rfl)) (by unfold Func.isWrapper; first | (rw [if_pos (by decide +kernel)]; kernel_rfl) | (rw [if_neg (by decide +kernel)]; exact ⟨rfl, rfl⟩))
    (fun os started H enc _ => lifted os started H enc)
end Go.Proofs.Ytfjjlipfjddaiaa.fnExactDecide
namespace Go.Proofs.Ytfjjlipfjddaiaa
theorem fnExactDecide_holds : Rows.FnExactDecideSaid := fnExactDecide.over
#print axioms fnExactDecide_holds
end Go.Proofs.Ytfjjlipfjddaiaa
