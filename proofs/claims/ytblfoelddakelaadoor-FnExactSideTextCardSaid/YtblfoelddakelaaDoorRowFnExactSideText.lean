/- The row of the law FnExactSideText: for every argument that can be read as data the call returns true and the arguments read as before.
   Conditions: none. -/
import Derived.Test.YtblfoelddakelaaDoorRows
import Derived.Test.YtblfoelddakelaaDoorU13
import Derived.Test.YtblfoelddakelaaDoorPureFnExactSideText
import Derived.Test.YtblfoelddakelaaDoorOpen
import Derived.WalkKit
import Derived.ProofKit
import Derived.OpenShut
import Derived.ShutString
import Derived.ChangeOld
import Derived.Below
import Derived.SizedLaws
import Derived.Handed
import Derived.LaidMore
import Derived.SevenTiedAt
import Derived.Test.YtblfoelddakelaaDoorLayRow
import Derived.Test.YtblfoelddakelaaDoorCards
import Derived.Test.YtblfoelddakelaaDoorTie
namespace Go.Proofs.YtblfoelddakelaaDoor.fnExactSideText
open Go.ChangeShapes Go.WideShapes Go.ChangeAt Go.RowKit Go.Proofs.YtblfoelddakelaaDoor.Op Go.Proofs.YtblfoelddakelaaDoor.U Go.Proofs.YtblfoelddakelaaDoorW.PrintWords
open Go.ChangeMaps (open_string shut_string)
set_option linter.unusedVariables false
theorem own : ownKnob Tryd.prog.godebug = none := by kernel_rfl
theorem laidOut : laidOutB Tryd.prog = true := by kernel_rfl
theorem oT94 : Opens Tryd.prog 94 (Kd.pair (Kd.int .i64) (Kd.pair (Kd.int .i64) (Kd.int .i64))) (fun p => ((Lit.int .i64 p.1).wf = true ∧ (Lit.int .i64 p.2.1).wf = true ∧ (Lit.int .i64 p.2.2).wf = true)) := opens_struct Tryd.underlying94 (by kernel_rfl) (seg_cons 3 (by rfl) (by rfl) (by kernel_rfl) (by rfl) (opens_int Tryd.underlying3) (seg_cons 3 (by rfl) (by rfl) (by kernel_rfl) (by rfl) (opens_int Tryd.underlying3) (seg_one 3 (by rfl) (by rfl) (by kernel_rfl) (opens_int Tryd.underlying3))))
theorem oK94 : Opens Tryd.prog 94 k94 (fun x => (Lit.int .i64 x.f0).wf = true ∧ (Lit.int .i64 x.f1).wf = true ∧ (Lit.int .i64 x.f2).wf = true) := opens_iso (fun p => ⟨p.1, p.2.1, p.2.2⟩) (fun _ => rfl) oT94
theorem oT30 : Opens Tryd.prog 30 (Kd.pair (Kd.slice 94 k94) (Kd.pair (Kd.int .i64) (Kd.int .i64))) (fun p => ((p.1.length ≤ 9223372036854775807 ∧ ∀ x ∈ p.1, ((Lit.int .i64 x.f0).wf = true ∧ (Lit.int .i64 x.f1).wf = true ∧ (Lit.int .i64 x.f2).wf = true)) ∧ (Lit.int .i64 p.2.1).wf = true ∧ (Lit.int .i64 p.2.2).wf = true)) := opens_struct Tryd.underlying30 (by kernel_rfl) (seg_cons 28 (by rfl) (by rfl) (by kernel_rfl) (by rfl) (opens_slice Tryd.underlying28 (by kernel_rfl) oK94) (seg_cons 3 (by rfl) (by rfl) (by kernel_rfl) (by rfl) (opens_int Tryd.underlying3) (seg_one 3 (by rfl) (by rfl) (by kernel_rfl) (opens_int Tryd.underlying3))))
set_option maxRecDepth 100000 in
theorem lifted (os : Os) (started : os.Started) (H : Type) (enc : TypeId × Value → H) :
    ReturnsInHanded {} Tryd.checked os 4 .any (fun w args => (Rows.fnExactSideTextSpec.pre enc Tryd.prog Tryd.f4 [] false w args ∧ laidMetH Tryd.prog LayRow.laid3 w) ∧ sizedMet enc Tryd.prog Tryd.f4 (OpenSpec.ofChange Rows.fnExactSideTextSpec) false w args) (Rows.fnExactSideTextSpec.post enc Tryd.prog Tryd.f4 false true false false) := by
  refine returnsInHanded_of_change_and (C := Tryd.checked) (X := fun w _ => laidMetH Tryd.prog LayRow.laid3 w) (fun _ _ _ hh h => h.of_heap hh) own started (by kernel_rfl) Tryd.func4
    (ChangeSpec.witness_shaped (enc := enc) (C := Tryd.checked) (os := os) (X := fun w _ => laidMetH Tryd.prog LayRow.laid3 w) false (World.doorLaid Tryd.prog 72 os) #[.agg #[.slice none 0 0, .int .i64 0, .int .i64 0]] 8 rfl (World.shaped_of_RefB (by kernel_rfl) (by kernel_rfl)) (by kernel_rfl) (by kernel_rfl) (by kernel_rfl) (LayRow.door_met os _)) ?_
  intro W base args ds gs before hval0 hW hcnd hsz0 hLd _
  have hval : ∀ (j : Nat) t v, Tryd.f4.params[j]? = some t → args[j]? = some v → Value.okWide Tryd.prog W .any base t v := hval0
  have hW' := hW
  obtain ⟨p, q, hA0, hV, rfl, hfz, hnd⟩ := hW
  have hA : DataW.TrodAll enc Tryd.prog W 0 (fun _ => true) true Tryd.f4.params.toList args.toList ds p := hA0
  rw [Tryd.params4] at hA hval
  obtain ⟨v0, vs0, d0, ds0, p0, q0, hargs, rfl, rfl, h0, r0⟩ := trodAll_cons hA
  obtain ⟨rfl, rfl, rfl⟩ := trodAll_nil r0
  obtain rfl : args = #[v0] := by cases args; simp_all
  obtain ⟨rfl, rfl⟩ := trodVars_none hV
  obtain ⟨cs0, rfl, _⟩ := okWide_struct Tryd.underlying30 (hval 0 30 v0 rfl rfl)
  obtain ⟨cl0⟩ := cs0
  have k0 := h0
  have lt0 : ∀ x ∈ p0, x.block < W.heap.size := by obtain ⟨m, hm⟩ := k0; exact DataW.trod_lt m _ _ _ hm
  obtain ⟨fu0, hf0⟩ := h0
  obtain ⟨⟨l0_0, a0_1, a0_2⟩, hK0, hB0⟩ := oT30 _ _ _ _ _ _ _ _ _ hf0
  obtain ⟨_, _, he0, ⟨A0_0, c0_0, rfl, hl0_0, hC0_0⟩, ⟨_, _, rfl, rfl, rfl⟩⟩ := hK0
  replace he0 : cl0 = _ := he0
  simp only [List.cons_append, List.nil_append] at he0
  subst he0
  clear hA0 hval0 hsz0
  obtain ⟨k, hk⟩ := Pure.FnExactSideText l0_0 a0_1 a0_2 (hB0.1) (hB0.2.1) (hB0.2.2)
  refine (laws_FnExactSideText.calls k A0_0 c0_0 l0_0 a0_1 a0_2 true ⟨rfl⟩ W hC0_0 hl0_0 (LayRow.lay_of hLd) hk).mono fun e W' ⟨he, bel0⟩ => ?_
  have bel := bel0
  subst he
  exact ⟨_, rfl, _, _, _, [], _, [], hW', trodAll_mk1 (shut_bool Tryd.underlying4 _), (trodAll_cons_mk (Below.trod laidOut (by kernel_rfl) (of_decide_eq_true (by kernel_rfl)) k0 bel lt0) trodAll_mk0), rfl, bel.frame _, fun h => by cases h⟩
theorem over : Rows.fnExactSideTextRow.holds Tryd.pinned (OpenSpec.ofChange Rows.fnExactSideTextSpec) :=
  OpenClaim.holds_of_wide 4 Tryd.f4 rfl rfl rfl rfl rfl rfl rfl ⟨rfl, rfl, rfl, rfl, rfl⟩ rfl rfl rfl rfl rfl (by kernel_rfl) Tryd.func4 (by kernel_rfl)
    (of_decide_eq_true (by kernel_rfl)) (by unfold Func.isWrapper; first | (rw [if_pos (by decide +kernel)]; kernel_rfl) | (rw [if_neg (by decide +kernel)]; exact ⟨rfl, rfl⟩))
    (fun os started H enc _ => lifted os started H enc)
end Go.Proofs.YtblfoelddakelaaDoor.fnExactSideText
namespace Go.Proofs.YtblfoelddakelaaDoor
theorem fnExactSideText_holds : Rows.FnExactSideTextCardSaid :=
  Claim7.holds_tied_plain_at .later [] [.data, .data, .data] true (true, "32cddb8cc66c9cbd92ee0287cd00536c6170520c26d3c151968fe0cbad2d532d") true
    fnExactSideText.over (fun _ h => by cases h) (by kernel_rfl) (fun _ h => by cases h) fnExactSideText_row_tie rfl ⟨rfl, rfl⟩ (by kernel_rfl) rfl
    (fun f fn hf hfn => by
      obtain rfl : f = 4 := Option.some.inj ((show Tryd.prog.funcNamed "loop.example/g00808/laws.FnExactSideText" = some 4 by kernel_rfl).symm.trans hf) |>.symm
      obtain rfl : fn = Tryd.f4 := (Option.some.inj (Tryd.func4.symm.trans hfn)).symm
      exact ⟨by kernel_rfl, fun j t ht => by
        rw [Tryd.params4] at ht
        have hm : t ∈ ([30] : List Nat) := by simpa using Array.mem_of_getElem? ht
        have hall : (([30] : List Nat).all fun u => !Tryd.prog.wantsStandIn u) = true := by kernel_rfl
        exact (show Tryd.prog.wantsStandIn t = false by simpa using List.all_eq_true.1 hall t hm)⟩)
    (by kernel_rfl)
#print axioms fnExactSideText_holds
end Go.Proofs.YtblfoelddakelaaDoor
