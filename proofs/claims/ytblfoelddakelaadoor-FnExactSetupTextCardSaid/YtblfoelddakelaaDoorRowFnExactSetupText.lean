/- The row of the law FnExactSetupText: for every argument that can be read as data the call returns true and the arguments read as before.
   Conditions: none. -/
import Derived.Test.YtblfoelddakelaaDoorRows
import Derived.Test.YtblfoelddakelaaDoorU34
import Derived.Test.YtblfoelddakelaaDoorPureFnExactSetupText
import Derived.Test.YtblfoelddakelaaDoorOpen
import Derived.WalkKit
import Derived.ProofKit
import Derived.OpenShut
import Derived.ShutString
import Derived.ChangeOld
import Derived.Below
import Derived.SizedLaws
import Derived.Handed
import Derived.LaidMore
import Derived.SevenTiedAt
import Derived.Test.YtblfoelddakelaaDoorLayRow
import Derived.Test.YtblfoelddakelaaDoorCards
import Derived.Test.YtblfoelddakelaaDoorTie
namespace Go.Proofs.YtblfoelddakelaaDoor.fnExactSetupText
open Go.ChangeShapes Go.WideShapes Go.ChangeAt Go.RowKit Go.Proofs.YtblfoelddakelaaDoor.Op Go.Proofs.YtblfoelddakelaaDoor.U Go.Proofs.YtblfoelddakelaaDoorW.PrintWords
open Go.ChangeMaps (open_string shut_string)
set_option linter.unusedVariables false
theorem own : ownKnob Tryd.prog.godebug = none := by kernel_rfl
theorem laidOut : laidOutB Tryd.prog = true := by kernel_rfl
theorem oT40 : Opens Tryd.prog 40 (Kd.pair (Kd.int .i64) (Kd.pair (Kd.int .i64) (Kd.int .i64))) (fun p => ((Lit.int .i64 p.1).wf = true ∧ (Lit.int .i64 p.2.1).wf = true ∧ (Lit.int .i64 p.2.2).wf = true)) := opens_struct Tryd.underlying40 (by kernel_rfl) (seg_cons 3 (by rfl) (by rfl) (by kernel_rfl) (by rfl) (opens_int Tryd.underlying3) (seg_cons 3 (by rfl) (by rfl) (by kernel_rfl) (by rfl) (opens_int Tryd.underlying3) (seg_one 3 (by rfl) (by rfl) (by kernel_rfl) (opens_int Tryd.underlying3))))
theorem oT97 : Opens Tryd.prog 97 (Kd.pair Kd.string (Kd.pair (Kd.int .i64) (Kd.int .i64))) (fun p => (p.1.size ≤ 9223372036854775807 ∧ (Lit.int .i64 p.2.1).wf = true ∧ (Lit.int .i64 p.2.2).wf = true)) := opens_struct Tryd.underlying97 (by kernel_rfl) (seg_cons 9 (by rfl) (by rfl) (by kernel_rfl) (by rfl) (opens_string Tryd.underlying9) (seg_cons 3 (by rfl) (by rfl) (by kernel_rfl) (by rfl) (opens_int Tryd.underlying3) (seg_one 3 (by rfl) (by rfl) (by kernel_rfl) (opens_int Tryd.underlying3))))
theorem oK97 : Opens Tryd.prog 97 k97 (fun x => x.f0.size ≤ 9223372036854775807 ∧ (Lit.int .i64 x.f1).wf = true ∧ (Lit.int .i64 x.f2).wf = true) := opens_iso (fun p => ⟨p.1, p.2.1, p.2.2⟩) (fun _ => rfl) oT97
theorem oT94 : Opens Tryd.prog 94 (Kd.pair (Kd.int .i64) (Kd.pair (Kd.int .i64) (Kd.int .i64))) (fun p => ((Lit.int .i64 p.1).wf = true ∧ (Lit.int .i64 p.2.1).wf = true ∧ (Lit.int .i64 p.2.2).wf = true)) := opens_struct Tryd.underlying94 (by kernel_rfl) (seg_cons 3 (by rfl) (by rfl) (by kernel_rfl) (by rfl) (opens_int Tryd.underlying3) (seg_cons 3 (by rfl) (by rfl) (by kernel_rfl) (by rfl) (opens_int Tryd.underlying3) (seg_one 3 (by rfl) (by rfl) (by kernel_rfl) (opens_int Tryd.underlying3))))
theorem oK94 : Opens Tryd.prog 94 k94 (fun x => (Lit.int .i64 x.f0).wf = true ∧ (Lit.int .i64 x.f1).wf = true ∧ (Lit.int .i64 x.f2).wf = true) := opens_iso (fun p => ⟨p.1, p.2.1, p.2.2⟩) (fun _ => rfl) oT94
theorem oT30 : Opens Tryd.prog 30 (Kd.pair (Kd.slice 94 k94) (Kd.pair (Kd.int .i64) (Kd.int .i64))) (fun p => ((p.1.length ≤ 9223372036854775807 ∧ ∀ x ∈ p.1, ((Lit.int .i64 x.f0).wf = true ∧ (Lit.int .i64 x.f1).wf = true ∧ (Lit.int .i64 x.f2).wf = true)) ∧ (Lit.int .i64 p.2.1).wf = true ∧ (Lit.int .i64 p.2.2).wf = true)) := opens_struct Tryd.underlying30 (by kernel_rfl) (seg_cons 28 (by rfl) (by rfl) (by kernel_rfl) (by rfl) (opens_slice Tryd.underlying28 (by kernel_rfl) oK94) (seg_cons 3 (by rfl) (by rfl) (by kernel_rfl) (by rfl) (opens_int Tryd.underlying3) (seg_one 3 (by rfl) (by rfl) (by kernel_rfl) (opens_int Tryd.underlying3))))
theorem oT43 : Opens Tryd.prog 43 (Kd.pair (Kd.pair (Kd.slice 94 k94) (Kd.pair (Kd.int .i64) (Kd.int .i64))) (Kd.pair (Kd.pair (Kd.slice 94 k94) (Kd.pair (Kd.int .i64) (Kd.int .i64))) (Kd.pair (Kd.int .i64) (Kd.int .i64)))) (fun p => (((p.1.1.length ≤ 9223372036854775807 ∧ ∀ x ∈ p.1.1, ((Lit.int .i64 x.f0).wf = true ∧ (Lit.int .i64 x.f1).wf = true ∧ (Lit.int .i64 x.f2).wf = true)) ∧ (Lit.int .i64 p.1.2.1).wf = true ∧ (Lit.int .i64 p.1.2.2).wf = true) ∧ ((p.2.1.1.length ≤ 9223372036854775807 ∧ ∀ x ∈ p.2.1.1, ((Lit.int .i64 x.f0).wf = true ∧ (Lit.int .i64 x.f1).wf = true ∧ (Lit.int .i64 x.f2).wf = true)) ∧ (Lit.int .i64 p.2.1.2.1).wf = true ∧ (Lit.int .i64 p.2.1.2.2).wf = true) ∧ (Lit.int .i64 p.2.2.1).wf = true ∧ (Lit.int .i64 p.2.2.2).wf = true)) := opens_struct Tryd.underlying43 (by kernel_rfl) (seg_cons 30 (by rfl) (by rfl) (by kernel_rfl) (by rfl) oT30 (seg_cons 30 (by rfl) (by rfl) (by kernel_rfl) (by rfl) oT30 (seg_cons 3 (by rfl) (by rfl) (by kernel_rfl) (by rfl) (opens_int Tryd.underlying3) (seg_one 3 (by rfl) (by rfl) (by kernel_rfl) (opens_int Tryd.underlying3)))))
theorem oT45 : Opens Tryd.prog 45 (Kd.pair (Kd.pair (Kd.int .i64) (Kd.pair (Kd.int .i64) (Kd.int .i64))) (Kd.pair (Kd.slice 97 k97) (Kd.pair (Kd.pair (Kd.slice 94 k94) (Kd.pair (Kd.int .i64) (Kd.int .i64))) (Kd.pair (Kd.pair (Kd.slice 94 k94) (Kd.pair (Kd.int .i64) (Kd.int .i64))) (Kd.pair (Kd.int .i64) (Kd.int .i64)))))) (fun p => (((Lit.int .i64 p.1.1).wf = true ∧ (Lit.int .i64 p.1.2.1).wf = true ∧ (Lit.int .i64 p.1.2.2).wf = true) ∧ (p.2.1.length ≤ 9223372036854775807 ∧ ∀ x ∈ p.2.1, (x.f0.size ≤ 9223372036854775807 ∧ (Lit.int .i64 x.f1).wf = true ∧ (Lit.int .i64 x.f2).wf = true)) ∧ (((p.2.2.1.1.length ≤ 9223372036854775807 ∧ ∀ x ∈ p.2.2.1.1, ((Lit.int .i64 x.f0).wf = true ∧ (Lit.int .i64 x.f1).wf = true ∧ (Lit.int .i64 x.f2).wf = true)) ∧ (Lit.int .i64 p.2.2.1.2.1).wf = true ∧ (Lit.int .i64 p.2.2.1.2.2).wf = true) ∧ ((p.2.2.2.1.1.length ≤ 9223372036854775807 ∧ ∀ x ∈ p.2.2.2.1.1, ((Lit.int .i64 x.f0).wf = true ∧ (Lit.int .i64 x.f1).wf = true ∧ (Lit.int .i64 x.f2).wf = true)) ∧ (Lit.int .i64 p.2.2.2.1.2.1).wf = true ∧ (Lit.int .i64 p.2.2.2.1.2.2).wf = true) ∧ (Lit.int .i64 p.2.2.2.2.1).wf = true ∧ (Lit.int .i64 p.2.2.2.2.2).wf = true))) := opens_struct Tryd.underlying45 (by kernel_rfl) (seg_cons 40 (by rfl) (by rfl) (by kernel_rfl) (by rfl) oT40 (seg_cons 41 (by rfl) (by rfl) (by kernel_rfl) (by rfl) (opens_slice Tryd.underlying41 (by kernel_rfl) oK97) (seg_one 43 (by rfl) (by rfl) (by kernel_rfl) oT43)))
set_option maxRecDepth 100000 in
theorem lifted (os : Os) (started : os.Started) (H : Type) (enc : TypeId × Value → H) :
    ReturnsInHanded {} Tryd.checked os 5 .any (fun w args => (Rows.fnExactSetupTextSpec.pre enc Tryd.prog Tryd.f5 [] false w args ∧ laidMetH Tryd.prog LayRow.laid5 w) ∧ sizedMet enc Tryd.prog Tryd.f5 (OpenSpec.ofChange Rows.fnExactSetupTextSpec) false w args) (Rows.fnExactSetupTextSpec.post enc Tryd.prog Tryd.f5 false true false false) := by
  refine returnsInHanded_of_change_and (C := Tryd.checked) (X := fun w _ => laidMetH Tryd.prog LayRow.laid5 w) (fun _ _ _ hh h => h.of_heap hh) own started (by kernel_rfl) Tryd.func5
    (ChangeSpec.witness_shaped (enc := enc) (C := Tryd.checked) (os := os) (X := fun w _ => laidMetH Tryd.prog LayRow.laid5 w) false (World.laidAll Tryd.prog os LayRow.laid5) #[.agg #[.int .i64 0, .int .i64 0, .int .i64 0, .slice none 0 0, .slice none 0 0, .int .i64 0, .int .i64 0, .slice none 0 0, .int .i64 0, .int .i64 0, .int .i64 0, .int .i64 0]] 8 (World.laidAll_os _ _ _) (World.shaped_of_ZipB (by kernel_rfl) (by kernel_rfl)) (by kernel_rfl) (by kernel_rfl) (by kernel_rfl) (LayRow.door_met5 os _)) ?_
  intro W base args ds gs before hval0 hW hcnd hsz0 hLd _
  have hval : ∀ (j : Nat) t v, Tryd.f5.params[j]? = some t → args[j]? = some v → Value.okWide Tryd.prog W .any base t v := hval0
  have hW' := hW
  obtain ⟨p, q, hA0, hV, rfl, hfz, hnd⟩ := hW
  have hA : DataW.TrodAll enc Tryd.prog W 0 (fun _ => true) true Tryd.f5.params.toList args.toList ds p := hA0
  rw [Tryd.params5] at hA hval
  obtain ⟨v0, vs0, d0, ds0, p0, q0, hargs, rfl, rfl, h0, r0⟩ := trodAll_cons hA
  obtain ⟨rfl, rfl, rfl⟩ := trodAll_nil r0
  obtain rfl : args = #[v0] := by cases args; simp_all
  obtain ⟨rfl, rfl⟩ := trodVars_none hV
  obtain ⟨cs0, rfl, _⟩ := okWide_struct Tryd.underlying45 (hval 0 45 v0 rfl rfl)
  obtain ⟨cl0⟩ := cs0
  have k0 := h0
  have lt0 : ∀ x ∈ p0, x.block < W.heap.size := by obtain ⟨m, hm⟩ := k0; exact DataW.trod_lt m _ _ _ hm
  obtain ⟨fu0, hf0⟩ := h0
  obtain ⟨⟨⟨a0_0, a0_1, a0_2⟩, l0_3, ⟨⟨l0_4, a0_5, a0_6⟩, ⟨l0_7, a0_8, a0_9⟩, a0_10, a0_11⟩⟩, hK0, hB0⟩ := oT45 _ _ _ _ _ _ _ _ _ hf0
  obtain ⟨_, _, he0, ⟨_, _, rfl, rfl, ⟨_, _, rfl, rfl, rfl⟩⟩, ⟨_, _, rfl, ⟨A0_3, c0_3, rfl, hl0_3, hC0_3⟩, ⟨_, _, rfl, ⟨_, _, rfl, ⟨A0_4, c0_4, rfl, hl0_4, hC0_4⟩, ⟨_, _, rfl, rfl, rfl⟩⟩, ⟨_, _, rfl, ⟨_, _, rfl, ⟨A0_7, c0_7, rfl, hl0_7, hC0_7⟩, ⟨_, _, rfl, rfl, rfl⟩⟩, ⟨_, _, rfl, rfl, rfl⟩⟩⟩⟩⟩ := hK0
  replace he0 : cl0 = _ := he0
  simp only [List.cons_append, List.nil_append] at he0
  subst he0
  clear hA0 hval0 hsz0
  obtain ⟨k, hk⟩ := Pure.FnExactSetupText a0_0 a0_1 a0_2 l0_3 l0_4 a0_5 a0_6 l0_7 a0_8 a0_9 a0_10 a0_11 (hB0.1.1) (hB0.1.2.1) (hB0.1.2.2) (hB0.2.1) (hB0.2.2.1.1) (hB0.2.2.1.2.1) (hB0.2.2.1.2.2) (hB0.2.2.2.1.1) (hB0.2.2.2.1.2.1) (hB0.2.2.2.1.2.2) (hB0.2.2.2.2.1) (hB0.2.2.2.2.2)
  refine (laws_FnExactSetupText.calls k a0_0 a0_1 a0_2 A0_3 c0_3 l0_3 A0_4 c0_4 l0_4 a0_5 a0_6 A0_7 c0_7 l0_7 a0_8 a0_9 a0_10 a0_11 true ⟨rfl⟩ W hC0_3 hl0_3 hC0_4 hl0_4 hC0_7 hl0_7 (LayRow.lay_of5 hLd) hk).mono fun e W' ⟨he, bel0⟩ => ?_
  have bel := bel0
  subst he
  exact ⟨_, rfl, _, _, _, [], _, [], hW', trodAll_mk1 (shut_bool Tryd.underlying4 _), (trodAll_cons_mk (Below.trod laidOut (by kernel_rfl) (of_decide_eq_true (by kernel_rfl)) k0 bel lt0) trodAll_mk0), rfl, bel.frame _, fun h => by cases h⟩
theorem over : Rows.fnExactSetupTextRow.holds Tryd.pinned (OpenSpec.ofChange Rows.fnExactSetupTextSpec) :=
  OpenClaim.holds_of_wide 5 Tryd.f5 rfl rfl rfl rfl rfl rfl rfl ⟨rfl, rfl, rfl, rfl, rfl⟩ rfl rfl rfl rfl rfl (by kernel_rfl) Tryd.func5 (by kernel_rfl)
    (of_decide_eq_true (by kernel_rfl)) (by unfold Func.isWrapper; first | (rw [if_pos (by decide +kernel)]; kernel_rfl) | (rw [if_neg (by decide +kernel)]; exact ⟨rfl, rfl⟩))
    (fun os started H enc _ => lifted os started H enc)
end Go.Proofs.YtblfoelddakelaaDoor.fnExactSetupText
namespace Go.Proofs.YtblfoelddakelaaDoor
theorem fnExactSetupText_holds : Rows.FnExactSetupTextCardSaid :=
  Claim7.holds_tied_plain_at .later [] [.data, .data, .data, .data, .pinned] true (true, "32cddb8cc66c9cbd92ee0287cd00536c6170520c26d3c151968fe0cbad2d532d") true
    fnExactSetupText.over (fun _ h => by cases h) (by kernel_rfl) (fun _ h => by cases h) fnExactSetupText_row_tie rfl ⟨rfl, rfl⟩ (by kernel_rfl) rfl
    (fun f fn hf hfn => by
      obtain rfl : f = 5 := Option.some.inj ((show Tryd.prog.funcNamed "loop.example/g00808/laws.FnExactSetupText" = some 5 by kernel_rfl).symm.trans hf) |>.symm
      obtain rfl : fn = Tryd.f5 := (Option.some.inj (Tryd.func5.symm.trans hfn)).symm
      exact ⟨by kernel_rfl, fun j t ht => by
        rw [Tryd.params5] at ht
        have hm : t ∈ ([45] : List Nat) := by simpa using Array.mem_of_getElem? ht
        have hall : (([45] : List Nat).all fun u => !Tryd.prog.wantsStandIn u) = true := by kernel_rfl
        exact (show Tryd.prog.wantsStandIn t = false by simpa using List.all_eq_true.1 hall t hm)⟩)
    (by kernel_rfl)
#print axioms fnExactSetupText_holds
end Go.Proofs.YtblfoelddakelaaDoor
