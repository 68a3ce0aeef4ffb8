-- PRINTED by print.py (a twelfth state) out of the translation. Not trusted: Lean checks it.
import Derived.Test.YtblfoelddakelaaH0
import Derived.Test.YtblfoelddakelaaH8
import Derived.Test.YtblfoelddakelaaH9
namespace Go.Proofs.Ytblfoelddakelaa.H
open Go.RowKit Go.Proofs.YtblfoelddakelaaW.PrintWords Go.Proofs.YtblfoelddakelaaW.PrintLast Go.Proofs.YtblfoelddakelaaW.PrintMore
attribute [local go_sem] max2_int min2_int max_two min_two max_three min_three max_four min_four   -- for this text's walks alone
set_option linter.unusedVariables false
set_option linter.unusedSimpArgs false

/-! ### laws_markSide: function 67 -/
def laws_markSide.f (k : Nat) (l0_0 : List (S71)) (a0_1 : Int) (a0_2 : Int) (a1 : Int) : Option (Int × (List (S71))) := (laws_markPolicyS.f k l0_0 a1).bind fun bt136 => (some (bt136.1, bt136.2))
theorem laws_markSide.mono : ∀ a0 a1 a2 a3 k, LeO (laws_markSide.f k a0 a1 a2 a3) (laws_markSide.f (k + 1) a0 a1 a2 a3) := by
  intro a0 a1 a2 a3 k
  unfold laws_markSide.f
  repeat' with_reducible first | exact laws_markPolicyS.mono _ _ _ | exact LeO.refl _ | exact LeO.none _ | refine LeO.ite ?_ ?_ | refine LeO.bind ?_ (fun _ => ?_)
set_option maxHeartbeats 8000000 in
set_option maxRecDepth 100000 in
theorem laws_markSide.calls (k : Nat) (P0_0_ : Nat → Prop) (u9000_ : Value) (l0_0 : List (S71)) (a0_1 : Int) (a0_2 : Int) (a1 : Int) (r1 : Int) (r2 : List (S71)) (w0 w : World) (hB : Below w0.heap.size w0 w) (ho0_0 : Kd.R k71 71 w w0.heap.size P0_0_ u9000_ l0_0) (h : laws_markSide.f k l0_0 a0_1 a0_2 a1 = some (r1, r2)) :
  Calls Try.prog 67 #[.agg #[u9000_, .int .i64 a0_1, .int .i64 a0_2], .int .i64 a1] w fun e w' => e = .returned (.int .i64 r1) ∧ Kd.R k71 71 w' w0.heap.size (fun k_ => (P0_0_ k_ ∨ w.heap.size ≤ k_)) u9000_ r2 ∧ Below w0.heap.size w0 w' ∧ Kept w w' (fun k_ => P0_0_ k_) := by
 have hu29 := Try.underlying29
 have HO0_0 := ak_ (show Kd.R k71 71 w w0.heap.size (fun k_ => (P0_0_ k_ ∨ w.heap.size ≤ k_)) u9000_ l0_0 from Kd.R_mono ho0_0 (fun k_ hk => (.inl hk)))
 have HK := ak_ (Kept.refl w (fun k_ => P0_0_ k_))
 have HW0 := ak_ hB.size
 have HB := ak_ hB
 clear hB
 have H : ((laws_markPolicyS.f k l0_0 a1).bind fun bt136 => (some (bt136.1, bt136.2))) = some (r1, r2) := h
 clear h
 replace H := Option.bind_eq_some_iff.mp H
 obtain ⟨⟨t136, t137⟩, A30, H⟩ := H
 replace H : (some (t136, t137)) = some (r1, r2) := H
 have A3 := ak_ A30
 clear A30
 simp only [Option.some.injEq, Prod.mk.injEq] at H
 obtain ⟨rfl, rfl⟩ := H
 obtain ⟨Ao4, co4, eo4⟩ := Kd.R_slice HO0_0.out
 subst eo4
 go_enter Try.func67, Try.ntmps67
 go_wp2_with (first | ((with_reducible refine gate_dst (N := 2) rfl ?_); refine be_ (N := 2) (cs := #[.slice Ao4 l0_0.length co4, .int .i64 a0_1, .int .i64 a0_2]) (t := 29) ?_; intro gb135 hg w5 hbox hb; replace HO0_0 := ak_ (Kd.R_below (ro_ HO0_0) hb); have BK135 := ak_ hbox; have GW135 := ak_ ((by rw [hg]; exact (by first | exact HK.out.1 | exact (show Kept w _ (fun k_ => P0_0_ k_) from (kp_ HK)).1) : w.heap.size ≤ gb135)); replace HK := ak_ (Kept.below (S := (fun k_ => P0_0_ k_)) (kp_ HK) hb); have GE135 := ak_ ((gs_ hg : w0.heap.size ≤ gb135)); replace HB := ak_ (below_step hb_ hb); clear hb hbox hg; obtain ⟨hcz6_0, hcz6_1, hcz6_2, hfz6_0, hfz6_1, hfz6_2⟩ := bc3_ BK135.out) | ((with_reducible refine gate_callee (f := 88) rfl ?_); refine goesL_ (some 8) rfl rfl Try.func88 (by kernel_rfl) rfl #[.slice Ao4 l0_0.length co4, .int .i64 a1] rfl (ma2_ rfl rfl) ?_; (with_reducible refine (laws_markPolicyS.calls k (fun k_ => some k_ = (.slice Ao4 l0_0.length co4 : Value).ownBlock) (.slice Ao4 l0_0.length co4) l0_0 a1 t136 t137 w0 _ ?side1 ?side2 A3.out).mono ?_); (case side1 => exact hb_); (case side2 => exact Kd.R_tight rfl HO0_0.out); rintro e w7 ⟨rfl, hy0, hb, hkp⟩; refine ⟨_, rfl, ?_⟩; replace BK135 := ak_ (blk_kept (by (with_reducible repeat (first | refine kn_ ?_ _ | refine kd_ ?_ | refine ka_ ?_ _)); exact BK135.out) hkp (fun hs_ => (fun e_ => (Kd.R_ne HO0_0.out BK135.out (by decide)) e_) hs_)); replace HK := ak_ (Kept.then_ (S := (fun k_ => P0_0_ k_)) (kp_ HK) hkp (fun k_ hs_ => (fun e_ => (HO0_0.out.1 k_ e_.symm)) hs_)); replace HO0_0 := ak_ (Kd.R_reok rfl hy0 (fun k_ e_ => HO0_0.out.1 k_ e_)); replace HB := ak_ hb; (try clear hb); (try clear hkp); (try clear hy0)))
 go_ret
 exact ⟨ew_, by (with_reducible repeat (first | apply Kd.R_alloc | apply Kd.R_drewN | apply Kd.R_drew)); exact HO0_0.out, hb_, (kp_ HK)⟩

/-! ### laws_markBehave: function 33 -/
def laws_markBehave.f (k : Nat) (l0_0 : List (S71)) (a0_1 : Int) (a0_2 : Int) (l0_3 : List (S71)) (a0_4 : Int) (a0_5 : Int) (a0_6 : Int) (a0_7 : Int) (a1 : Int) : Option (Int × (List (S71)) × (List (S71))) := (laws_markSide.f k l0_0 a0_1 a0_2 a1).bind fun bt139 => ((laws_markSide.f k l0_3 a0_4 a0_5 bt139.1).bind fun bt141 => (some (bt141.1, bt139.2, bt141.2)))
theorem laws_markBehave.mono : ∀ a0 a1 a2 a3 a4 a5 a6 a7 a8 k, LeO (laws_markBehave.f k a0 a1 a2 a3 a4 a5 a6 a7 a8) (laws_markBehave.f (k + 1) a0 a1 a2 a3 a4 a5 a6 a7 a8) := by
  intro a0 a1 a2 a3 a4 a5 a6 a7 a8 k
  unfold laws_markBehave.f
  repeat' with_reducible first | exact laws_markSide.mono _ _ _ _ _ | exact LeO.refl _ | exact LeO.none _ | refine LeO.ite ?_ ?_ | refine LeO.bind ?_ (fun _ => ?_)
set_option maxHeartbeats 8000000 in
set_option maxRecDepth 100000 in
theorem laws_markBehave.calls (k : Nat) (P0_0_ : Nat → Prop) (u9000_ : Value) (l0_0 : List (S71)) (a0_1 : Int) (a0_2 : Int) (P0_3_ : Nat → Prop) (u9001_ : Value) (l0_3 : List (S71)) (a0_4 : Int) (a0_5 : Int) (a0_6 : Int) (a0_7 : Int) (a1 : Int) (r1 : Int) (r2 : List (S71)) (r3 : List (S71)) (w0 w : World) (hB : Below w0.heap.size w0 w) (ho0_0 : Kd.R k71 71 w w0.heap.size P0_0_ u9000_ l0_0) (hp0_0_0_3 : ∀ k_, P0_0_ k_ → ¬ P0_3_ k_) (ho0_3 : Kd.R k71 71 w w0.heap.size P0_3_ u9001_ l0_3) (hp0_3_0_0 : ∀ k_, P0_3_ k_ → ¬ P0_0_ k_) (h : laws_markBehave.f k l0_0 a0_1 a0_2 l0_3 a0_4 a0_5 a0_6 a0_7 a1 = some (r1, r2, r3)) :
  Calls Try.prog 33 #[.agg #[u9000_, .int .i64 a0_1, .int .i64 a0_2, u9001_, .int .i64 a0_4, .int .i64 a0_5, .int .i64 a0_6, .int .i64 a0_7], .int .i64 a1] w fun e w' => e = .returned (.int .i64 r1) ∧ Kd.R k71 71 w' w0.heap.size (fun k_ => ((P0_0_ k_ ∨ P0_3_ k_) ∨ w.heap.size ≤ k_)) u9000_ r2 ∧ Kd.R k71 71 w' w0.heap.size (fun k_ => ((P0_0_ k_ ∨ P0_3_ k_) ∨ w.heap.size ≤ k_)) u9001_ r3 ∧ Below w0.heap.size w0 w' ∧ Kept w w' (fun k_ => P0_0_ k_ ∨ P0_3_ k_) := by
 have hu31 := Try.underlying31
 have hu29 := Try.underlying29
 have HO0_0 := ak_ (show Kd.R k71 71 w w0.heap.size (fun k_ => ((P0_0_ k_ ∨ P0_3_ k_) ∨ w.heap.size ≤ k_) ∧ some k_ ≠ (u9001_ : Value).ownBlock) u9000_ l0_0 from Kd.R_mono ho0_0 (fun k_ hk => ⟨(.inl (.inl hk)), fun e_ => hp0_0_0_3 k_ hk (ho0_3.1 k_ e_.symm)⟩))
 have HO0_3 := ak_ (show Kd.R k71 71 w w0.heap.size (fun k_ => ((P0_0_ k_ ∨ P0_3_ k_) ∨ w.heap.size ≤ k_) ∧ some k_ ≠ (u9000_ : Value).ownBlock) u9001_ l0_3 from Kd.R_mono ho0_3 (fun k_ hk => ⟨(.inl (.inr hk)), fun e_ => hp0_3_0_0 k_ hk (ho0_0.1 k_ e_.symm)⟩))
 have HK := ak_ (Kept.refl w (fun k_ => P0_0_ k_ ∨ P0_3_ k_))
 have HW0 := ak_ hB.size
 have HB := ak_ hB
 clear hB
 have H : ((laws_markSide.f k l0_0 a0_1 a0_2 a1).bind fun bt139 => ((laws_markSide.f k l0_3 a0_4 a0_5 bt139.1).bind fun bt141 => (some (bt141.1, bt139.2, bt141.2)))) = some (r1, r2, r3) := h
 clear h
 replace H := Option.bind_eq_some_iff.mp H
 obtain ⟨⟨t139, t140⟩, A30, H⟩ := H
 replace H : ((laws_markSide.f k l0_3 a0_4 a0_5 t139).bind fun bt141 => (some (bt141.1, t140, bt141.2))) = some (r1, r2, r3) := H
 have A3 := ak_ A30
 clear A30
 replace H := Option.bind_eq_some_iff.mp H
 obtain ⟨⟨t141, t142⟩, A40, H⟩ := H
 replace H : (some (t141, t140, t142)) = some (r1, r2, r3) := H
 have A4 := ak_ A40
 clear A40
 simp only [Option.some.injEq, Prod.mk.injEq] at H
 obtain ⟨rfl, rfl, rfl⟩ := H
 obtain ⟨Ao5, co5, eo5⟩ := Kd.R_slice HO0_0.out
 subst eo5
 obtain ⟨Ao6, co6, eo6⟩ := Kd.R_slice HO0_3.out
 subst eo6
 go_enter Try.func33, Try.ntmps33
 go_wp2_with (first | ((with_reducible refine gate_dst (N := 2) rfl ?_); refine be_ (N := 2) (cs := #[.slice Ao5 l0_0.length co5, .int .i64 a0_1, .int .i64 a0_2, .slice Ao6 l0_3.length co6, .int .i64 a0_4, .int .i64 a0_5, .int .i64 a0_6, .int .i64 a0_7]) (t := 31) ?_; intro gb138 hg w7 hbox hb; replace HO0_0 := ak_ (Kd.R_below (ro_ HO0_0) hb); replace HO0_3 := ak_ (Kd.R_below (ro_ HO0_3) hb); have BK138 := ak_ hbox; have GW138 := ak_ ((by rw [hg]; exact (by first | exact HK.out.1 | exact (show Kept w _ (fun k_ => P0_0_ k_ ∨ P0_3_ k_) from (kp_ HK)).1) : w.heap.size ≤ gb138)); replace HK := ak_ (Kept.below (S := (fun k_ => P0_0_ k_ ∨ P0_3_ k_)) (kp_ HK) hb); have GE138 := ak_ ((gs_ hg : w0.heap.size ≤ gb138)); replace HB := ak_ (below_step hb_ hb); clear hb hbox hg; obtain ⟨hcz8_0, hcz8_1, hcz8_2, hcz8_3, hcz8_4, hcz8_5, hcz8_6, hcz8_7, hfz8_0, hfz8_1, hfz8_2, hfz8_3, hfz8_4, hfz8_5, hfz8_6, hfz8_7⟩ := bc8_ BK138.out) | ((with_reducible refine gate_callee (f := 67) rfl ?_); refine goesL_ (some 8) rfl rfl Try.func67 (by kernel_rfl) rfl #[.agg #[.slice Ao5 l0_0.length co5, .int .i64 a0_1, .int .i64 a0_2], .int .i64 a1] rfl (ma2_ rfl rfl) ?_; (with_reducible refine (laws_markSide.calls k (fun k_ => some k_ = (.slice Ao5 l0_0.length co5 : Value).ownBlock) (.slice Ao5 l0_0.length co5) l0_0 a0_1 a0_2 a1 t139 t140 w0 _ ?side1 ?side2 A3.out).mono ?_); (case side1 => exact hb_); (case side2 => exact Kd.R_tight rfl HO0_0.out); rintro e w9 ⟨rfl, hy0, hb, hkp⟩; refine ⟨_, rfl, ?_⟩; replace HO0_3 := ak_ (Kd.R_mono (ok' := fun k_ => ((P0_0_ k_ ∨ P0_3_ k_) ∨ w.heap.size ≤ k_) ∧ some k_ ≠ (.slice Ao5 l0_0.length co5 : Value).ownBlock) (Kd.R_keptB (HO0_3.out) hkp (fun k_ hk_ hs_ => (hk_.2) hs_)) (fun k_ hk_ => ⟨hk_.1.1, hk_.1.2⟩)); replace BK138 := ak_ (blk_kept (by (with_reducible repeat (first | refine kn_ ?_ _ | refine kd_ ?_ | refine ka_ ?_ _)); exact BK138.out) hkp (fun hs_ => (fun e_ => (Kd.R_ne HO0_0.out BK138.out (by decide)) e_) hs_)); replace HK := ak_ (Kept.then_ (S := (fun k_ => P0_0_ k_ ∨ P0_3_ k_)) (kp_ HK) hkp (fun k_ hs_ => (fun e_ => (HO0_0.out.1 k_ e_.symm).1) hs_)); replace HO0_0 := ak_ (Kd.R_reok rfl hy0 (fun k_ e_ => HO0_0.out.1 k_ e_)); replace HB := ak_ hb; (try clear hb); (try clear hkp); (try clear hy0); obtain ⟨hcz10_0, hcz10_1, hcz10_2, hcz10_3, hcz10_4, hcz10_5, hcz10_6, hcz10_7, hfz10_0, hfz10_1, hfz10_2, hfz10_3, hfz10_4, hfz10_5, hfz10_6, hfz10_7⟩ := bc8_ BK138.out) | ((with_reducible refine gate_callee (f := 67) rfl ?_); refine goesL_ (some 12) rfl rfl Try.func67 (by kernel_rfl) rfl #[.agg #[.slice Ao6 l0_3.length co6, .int .i64 a0_4, .int .i64 a0_5], .int .i64 t139] rfl (ma2_ rfl rfl) ?_; (with_reducible refine (laws_markSide.calls k (fun k_ => some k_ = (.slice Ao6 l0_3.length co6 : Value).ownBlock) (.slice Ao6 l0_3.length co6) l0_3 a0_4 a0_5 t139 t141 t142 w0 _ ?side1 ?side2 A4.out).mono ?_); (case side1 => exact hb_); (case side2 => exact Kd.R_tight rfl HO0_3.out); rintro e w11 ⟨rfl, hy0, hb, hkp⟩; refine ⟨_, rfl, ?_⟩; replace HO0_0 := ak_ (Kd.R_mono (ok' := fun k_ => ((P0_0_ k_ ∨ P0_3_ k_) ∨ w.heap.size ≤ k_) ∧ some k_ ≠ (.slice Ao6 l0_3.length co6 : Value).ownBlock) (Kd.R_keptB (HO0_0.out) hkp (fun k_ hk_ hs_ => (hk_.2) hs_)) (fun k_ hk_ => ⟨hk_.1.1, hk_.1.2⟩)); replace BK138 := ak_ (blk_kept (by (with_reducible repeat (first | refine kn_ ?_ _ | refine kd_ ?_ | refine ka_ ?_ _)); exact BK138.out) hkp (fun hs_ => (fun e_ => (Kd.R_ne HO0_3.out BK138.out (by decide)) e_) hs_)); replace HK := ak_ (Kept.then_ (S := (fun k_ => P0_0_ k_ ∨ P0_3_ k_)) (kp_ HK) hkp (fun k_ hs_ => (fun e_ => (HO0_3.out.1 k_ e_.symm).1) hs_)); replace HO0_3 := ak_ (Kd.R_reok rfl hy0 (fun k_ e_ => HO0_3.out.1 k_ e_)); replace HB := ak_ hb; (try clear hb); (try clear hkp); (try clear hy0)))
 go_ret
 exact ⟨ew_, by (with_reducible repeat (first | apply Kd.R_alloc | apply Kd.R_drewN | apply Kd.R_drew)); exact Kd.R_mono HO0_0.out (fun _ hk => hk.1), by (with_reducible repeat (first | apply Kd.R_alloc | apply Kd.R_drewN | apply Kd.R_drew)); exact Kd.R_mono HO0_3.out (fun _ hk => hk.1), hb_, (kp_ HK)⟩

/-! ### laws_markSetup: function 13 -/
def laws_markSetup.f (k : Nat) (a0_0 : Int) (a0_1 : Int) (a0_2 : Int) (l0_3 : List (S49)) (l0_4 : List (S71)) (a0_5 : Int) (a0_6 : Int) (l0_7 : List (S71)) (a0_8 : Int) (a0_9 : Int) (a0_10 : Int) (a0_11 : Int) (a1 : Int) : Option (Int × (List (S49)) × (List (S71)) × (List (S71))) := (laws_markGoalS.f k l0_3 a1).bind fun bt144 => ((laws_markBehave.f k l0_4 a0_5 a0_6 l0_7 a0_8 a0_9 a0_10 a0_11 bt144.1).bind fun bt146 => (some (bt146.1, bt144.2, bt146.2.1, bt146.2.2)))
theorem laws_markSetup.mono : ∀ a0 a1 a2 a3 a4 a5 a6 a7 a8 a9 a10 a11 a12 k, LeO (laws_markSetup.f k a0 a1 a2 a3 a4 a5 a6 a7 a8 a9 a10 a11 a12) (laws_markSetup.f (k + 1) a0 a1 a2 a3 a4 a5 a6 a7 a8 a9 a10 a11 a12) := by
  intro a0 a1 a2 a3 a4 a5 a6 a7 a8 a9 a10 a11 a12 k
  unfold laws_markSetup.f
  repeat' with_reducible first | exact laws_markBehave.mono _ _ _ _ _ _ _ _ _ _ | exact laws_markGoalS.mono _ _ _ | exact LeO.refl _ | exact LeO.none _ | refine LeO.ite ?_ ?_ | refine LeO.bind ?_ (fun _ => ?_)
set_option maxHeartbeats 8000000 in
set_option maxRecDepth 100000 in
theorem laws_markSetup.calls (k : Nat) (a0_0 : Int) (a0_1 : Int) (a0_2 : Int) (P0_3_ : Nat → Prop) (u9000_ : Value) (l0_3 : List (S49)) (P0_4_ : Nat → Prop) (u9001_ : Value) (l0_4 : List (S71)) (a0_5 : Int) (a0_6 : Int) (P0_7_ : Nat → Prop) (u9002_ : Value) (l0_7 : List (S71)) (a0_8 : Int) (a0_9 : Int) (a0_10 : Int) (a0_11 : Int) (a1 : Int) (r1 : Int) (r2 : List (S49)) (r3 : List (S71)) (r4 : List (S71)) (w0 w : World) (hB : Below w0.heap.size w0 w) (ho0_3 : Kd.R k49 49 w w0.heap.size P0_3_ u9000_ l0_3) (ho0_4 : Kd.R k71 71 w w0.heap.size P0_4_ u9001_ l0_4) (hp0_4_0_7 : ∀ k_, P0_4_ k_ → ¬ P0_7_ k_) (ho0_7 : Kd.R k71 71 w w0.heap.size P0_7_ u9002_ l0_7) (hp0_7_0_4 : ∀ k_, P0_7_ k_ → ¬ P0_4_ k_) (h : laws_markSetup.f k a0_0 a0_1 a0_2 l0_3 l0_4 a0_5 a0_6 l0_7 a0_8 a0_9 a0_10 a0_11 a1 = some (r1, r2, r3, r4)) :
  Calls Try.prog 13 #[.agg #[.int .i64 a0_0, .int .i64 a0_1, .int .i64 a0_2, u9000_, u9001_, .int .i64 a0_5, .int .i64 a0_6, u9002_, .int .i64 a0_8, .int .i64 a0_9, .int .i64 a0_10, .int .i64 a0_11], .int .i64 a1] w fun e w' => e = .returned (.int .i64 r1) ∧ Kd.R k49 49 w' w0.heap.size (fun k_ => ((P0_3_ k_ ∨ P0_4_ k_ ∨ P0_7_ k_) ∨ w.heap.size ≤ k_)) u9000_ r2 ∧ Kd.R k71 71 w' w0.heap.size (fun k_ => ((P0_3_ k_ ∨ P0_4_ k_ ∨ P0_7_ k_) ∨ w.heap.size ≤ k_)) u9001_ r3 ∧ Kd.R k71 71 w' w0.heap.size (fun k_ => ((P0_3_ k_ ∨ P0_4_ k_ ∨ P0_7_ k_) ∨ w.heap.size ≤ k_)) u9002_ r4 ∧ Below w0.heap.size w0 w' ∧ Kept w w' (fun k_ => P0_3_ k_ ∨ P0_4_ k_ ∨ P0_7_ k_) := by
 have hu33 := Try.underlying33
 have hu31 := Try.underlying31
 have HO0_3 := ak_ (show Kd.R k49 49 w w0.heap.size (fun k_ => ((P0_3_ k_ ∨ P0_4_ k_ ∨ P0_7_ k_) ∨ w.heap.size ≤ k_)) u9000_ l0_3 from Kd.R_mono ho0_3 (fun k_ hk => (.inl (.inl hk))))
 have HO0_4 := ak_ (show Kd.R k71 71 w w0.heap.size (fun k_ => ((P0_3_ k_ ∨ P0_4_ k_ ∨ P0_7_ k_) ∨ w.heap.size ≤ k_) ∧ some k_ ≠ (u9002_ : Value).ownBlock) u9001_ l0_4 from Kd.R_mono ho0_4 (fun k_ hk => ⟨(.inl (.inr (.inl hk))), fun e_ => hp0_4_0_7 k_ hk (ho0_7.1 k_ e_.symm)⟩))
 have HO0_7 := ak_ (show Kd.R k71 71 w w0.heap.size (fun k_ => ((P0_3_ k_ ∨ P0_4_ k_ ∨ P0_7_ k_) ∨ w.heap.size ≤ k_) ∧ some k_ ≠ (u9001_ : Value).ownBlock) u9002_ l0_7 from Kd.R_mono ho0_7 (fun k_ hk => ⟨(.inl (.inr (.inr hk))), fun e_ => hp0_7_0_4 k_ hk (ho0_4.1 k_ e_.symm)⟩))
 have HK := ak_ (Kept.refl w (fun k_ => P0_3_ k_ ∨ P0_4_ k_ ∨ P0_7_ k_))
 have HW0 := ak_ hB.size
 have HB := ak_ hB
 clear hB
 have H : ((laws_markGoalS.f k l0_3 a1).bind fun bt144 => ((laws_markBehave.f k l0_4 a0_5 a0_6 l0_7 a0_8 a0_9 a0_10 a0_11 bt144.1).bind fun bt146 => (some (bt146.1, bt144.2, bt146.2.1, bt146.2.2)))) = some (r1, r2, r3, r4) := h
 clear h
 replace H := Option.bind_eq_some_iff.mp H
 obtain ⟨⟨t144, t145⟩, A30, H⟩ := H
 replace H : ((laws_markBehave.f k l0_4 a0_5 a0_6 l0_7 a0_8 a0_9 a0_10 a0_11 t144).bind fun bt146 => (some (bt146.1, t145, bt146.2.1, bt146.2.2))) = some (r1, r2, r3, r4) := H
 have A3 := ak_ A30
 clear A30
 replace H := Option.bind_eq_some_iff.mp H
 obtain ⟨⟨t146, t147, t148⟩, A40, H⟩ := H
 replace H : (some (t146, t145, t147, t148)) = some (r1, r2, r3, r4) := H
 have A4 := ak_ A40
 clear A40
 simp only [Option.some.injEq, Prod.mk.injEq] at H
 obtain ⟨rfl, rfl, rfl, rfl⟩ := H
 obtain ⟨Ao5, co5, eo5⟩ := Kd.R_slice HO0_3.out
 subst eo5
 obtain ⟨Ao6, co6, eo6⟩ := Kd.R_slice HO0_4.out
 subst eo6
 obtain ⟨Ao7, co7, eo7⟩ := Kd.R_slice HO0_7.out
 subst eo7
 go_enter Try.func13, Try.ntmps13
 go_wp2_with (first | ((with_reducible refine gate_dst (N := 2) rfl ?_); refine be_ (N := 2) (cs := #[.int .i64 a0_0, .int .i64 a0_1, .int .i64 a0_2, .slice Ao5 l0_3.length co5, .slice Ao6 l0_4.length co6, .int .i64 a0_5, .int .i64 a0_6, .slice Ao7 l0_7.length co7, .int .i64 a0_8, .int .i64 a0_9, .int .i64 a0_10, .int .i64 a0_11]) (t := 33) ?_; intro gb143 hg w8 hbox hb; replace HO0_3 := ak_ (Kd.R_below (ro_ HO0_3) hb); replace HO0_4 := ak_ (Kd.R_below (ro_ HO0_4) hb); replace HO0_7 := ak_ (Kd.R_below (ro_ HO0_7) hb); have BK143 := ak_ hbox; have GW143 := ak_ ((by rw [hg]; exact (by first | exact HK.out.1 | exact (show Kept w _ (fun k_ => P0_3_ k_ ∨ P0_4_ k_ ∨ P0_7_ k_) from (kp_ HK)).1) : w.heap.size ≤ gb143)); replace HK := ak_ (Kept.below (S := (fun k_ => P0_3_ k_ ∨ P0_4_ k_ ∨ P0_7_ k_)) (kp_ HK) hb); have GE143 := ak_ ((gs_ hg : w0.heap.size ≤ gb143)); replace HB := ak_ (below_step hb_ hb); clear hb hbox hg; obtain ⟨hcz9_0, hcz9_1, hcz9_2, hcz9_3, hcz9_4, hcz9_5, hcz9_6, hcz9_7, hcz9_8, hcz9_9, hcz9_10, hcz9_11, hfz9_0, hfz9_1, hfz9_2, hfz9_3, hfz9_4, hfz9_5, hfz9_6, hfz9_7, hfz9_8, hfz9_9, hfz9_10, hfz9_11⟩ := bc12_ BK143.out) | ((with_reducible refine gate_callee (f := 32) rfl ?_); refine goesL_ (some 8) rfl rfl Try.func32 (by kernel_rfl) rfl #[.slice Ao5 l0_3.length co5, .int .i64 a1] rfl (ma2_ rfl rfl) ?_; (with_reducible refine (laws_markGoalS.calls k (fun k_ => some k_ = (.slice Ao5 l0_3.length co5 : Value).ownBlock) (.slice Ao5 l0_3.length co5) l0_3 a1 t144 t145 w0 _ ?side1 ?side2 A3.out).mono ?_); (case side1 => exact hb_); (case side2 => exact Kd.R_tight rfl HO0_3.out); rintro e w10 ⟨rfl, hy0, hb, hkp⟩; refine ⟨_, rfl, ?_⟩; replace HO0_4 := ak_ (Kd.R_mono (ok' := fun k_ => ((P0_3_ k_ ∨ P0_4_ k_ ∨ P0_7_ k_) ∨ w.heap.size ≤ k_) ∧ some k_ ≠ (.slice Ao7 l0_7.length co7 : Value).ownBlock) (Kd.R_keptB ((Kd.R_apart' HO0_4.out (Kd.R_typed HO0_3.out) (by decide))) hkp (fun k_ hk_ hs_ => (hk_.2) hs_)) (fun k_ hk_ => ⟨hk_.1.1.1, hk_.1.1.2⟩)); replace HO0_7 := ak_ (Kd.R_mono (ok' := fun k_ => ((P0_3_ k_ ∨ P0_4_ k_ ∨ P0_7_ k_) ∨ w.heap.size ≤ k_) ∧ some k_ ≠ (.slice Ao6 l0_4.length co6 : Value).ownBlock) (Kd.R_keptB ((Kd.R_apart' HO0_7.out (Kd.R_typed HO0_3.out) (by decide))) hkp (fun k_ hk_ hs_ => (hk_.2) hs_)) (fun k_ hk_ => ⟨hk_.1.1.1, hk_.1.1.2⟩)); replace BK143 := ak_ (blk_kept (by (with_reducible repeat (first | refine kn_ ?_ _ | refine kd_ ?_ | refine ka_ ?_ _)); exact BK143.out) hkp (fun hs_ => (fun e_ => (Kd.R_ne HO0_3.out BK143.out (by decide)) e_) hs_)); replace HK := ak_ (Kept.then_ (S := (fun k_ => P0_3_ k_ ∨ P0_4_ k_ ∨ P0_7_ k_)) (kp_ HK) hkp (fun k_ hs_ => (fun e_ => (HO0_3.out.1 k_ e_.symm)) hs_)); replace HO0_3 := ak_ (Kd.R_reok rfl hy0 (fun k_ e_ => HO0_3.out.1 k_ e_)); replace HB := ak_ hb; (try clear hb); (try clear hkp); (try clear hy0); obtain ⟨hcz11_0, hcz11_1, hcz11_2, hcz11_3, hcz11_4, hcz11_5, hcz11_6, hcz11_7, hcz11_8, hcz11_9, hcz11_10, hcz11_11, hfz11_0, hfz11_1, hfz11_2, hfz11_3, hfz11_4, hfz11_5, hfz11_6, hfz11_7, hfz11_8, hfz11_9, hfz11_10, hfz11_11⟩ := bc12_ BK143.out) | ((with_reducible refine gate_callee (f := 33) rfl ?_); refine goesL_ (some 12) rfl rfl Try.func33 (by kernel_rfl) rfl #[.agg #[.slice Ao6 l0_4.length co6, .int .i64 a0_5, .int .i64 a0_6, .slice Ao7 l0_7.length co7, .int .i64 a0_8, .int .i64 a0_9, .int .i64 a0_10, .int .i64 a0_11], .int .i64 t144] rfl (ma2_ rfl rfl) ?_; (with_reducible refine (laws_markBehave.calls k (fun k_ => some k_ = (.slice Ao6 l0_4.length co6 : Value).ownBlock) (.slice Ao6 l0_4.length co6) l0_4 a0_5 a0_6 (fun k_ => some k_ = (.slice Ao7 l0_7.length co7 : Value).ownBlock) (.slice Ao7 l0_7.length co7) l0_7 a0_8 a0_9 a0_10 a0_11 t144 t146 t147 t148 w0 _ ?side1 ?side2 ?side3 ?side4 ?side5 A4.out).mono ?_); (case side1 => exact hb_); (case side2 => exact Kd.R_tight rfl HO0_4.out); (case side3 => exact fun k_ e_ => (HO0_4.out.1 k_ e_.symm).2); (case side4 => exact Kd.R_tight rfl HO0_7.out); (case side5 => exact fun k_ e_ => (HO0_7.out.1 k_ e_.symm).2); rintro e w12 ⟨rfl, hy0, hy1, hb, hkp⟩; refine ⟨_, rfl, ?_⟩; replace HO0_3 := ak_ (Kd.R_mono (ok' := fun k_ => ((P0_3_ k_ ∨ P0_4_ k_ ∨ P0_7_ k_) ∨ w.heap.size ≤ k_)) (Kd.R_keptB ((Kd.R_apart' (Kd.R_apart' HO0_3.out (Kd.R_typed HO0_4.out) (by decide)) (Kd.R_typed HO0_7.out) (by decide))) hkp (fun k_ hk_ hs_ => Or.elim hs_ (fun e_ => (hk_.1.2) e_) (fun e_ => (hk_.2) e_))) (fun k_ hk_ => hk_.1.1.1)); replace BK143 := ak_ (blk_kept (by (with_reducible repeat (first | refine kn_ ?_ _ | refine kd_ ?_ | refine ka_ ?_ _)); exact BK143.out) hkp (fun hs_ => Or.elim hs_ (fun e_ => (fun e_ => (Kd.R_ne HO0_4.out BK143.out (by decide)) e_) e_) (fun e_ => (fun e_ => (Kd.R_ne HO0_7.out BK143.out (by decide)) e_) e_))); replace HK := ak_ (Kept.then_ (S := (fun k_ => P0_3_ k_ ∨ P0_4_ k_ ∨ P0_7_ k_)) (kp_ HK) hkp (fun k_ hs_ => Or.elim hs_ (fun e_ => (fun e_ => (HO0_4.out.1 k_ e_.symm).1) e_) (fun e_ => (fun e_ => (HO0_7.out.1 k_ e_.symm).1) e_))); replace HO0_4 := ak_ (Kd.R_reok rfl hy0 (fun k_ e_ => HO0_4.out.1 k_ e_)); replace HO0_7 := ak_ (Kd.R_reok rfl hy1 (fun k_ e_ => HO0_7.out.1 k_ e_)); replace HB := ak_ hb; (try clear hb); (try clear hkp); (try clear hy0); (try clear hy1)))
 go_ret
 exact ⟨ew_, by (with_reducible repeat (first | apply Kd.R_alloc | apply Kd.R_drewN | apply Kd.R_drew)); exact HO0_3.out, by (with_reducible repeat (first | apply Kd.R_alloc | apply Kd.R_drewN | apply Kd.R_drew)); exact Kd.R_mono HO0_4.out (fun _ hk => hk.1), by (with_reducible repeat (first | apply Kd.R_alloc | apply Kd.R_drewN | apply Kd.R_drew)); exact Kd.R_mono HO0_7.out (fun _ hk => hk.1), hb_, (kp_ HK)⟩

end Go.Proofs.Ytblfoelddakelaa.H
