-- PRINTED by print.py (a twelfth state) out of the translation. Not trusted: Lean checks it.
import Derived.Test.YtfjjlipfjddaiaaBo0
import Derived.Test.YtfjjlipfjddaiaaBo1
import Derived.Test.YtfjjlipfjddaiaaBo2
import Derived.Test.YtfjjlipfjddaiaaBo3
namespace Go.Proofs.Ytfjjlipfjddaiaa.Bo
open Go.RowKit Go.Proofs.YtfjjlipfjddaiaaW.PrintWords Go.Proofs.YtfjjlipfjddaiaaW.PrintLast Go.Proofs.YtfjjlipfjddaiaaW.PrintMore
attribute [local go_sem] max2_int min2_int max_two min_two max_three min_three max_four min_four   -- for this text's walks alone
set_option linter.unusedVariables false
set_option linter.unusedSimpArgs false

/-! ### spec_l06DrawBehave: function 94 -/
def spec_l06DrawBehave.f (k : Nat) (s0_0 : List Int) (s0_1 : Int) (s0_2 : Int) : Option ((List (S96)) × Int × Int × (List (S96)) × Int × Int × Int × Int × Int × Int) := (spec_l06DrawSide.f k s0_0 s0_1 s0_2).bind fun bt161 => ((spec_l06DrawSide.f k s0_0 bt161.2.2.2.1 bt161.2.2.2.2).bind fun bt168 => ((spec_l01Below.f s0_0 bt168.2.2.2.1 bt168.2.2.2.2 4).bind fun bt175 => ((spec_l01PickInt.f s0_0 bt175.2.1 bt175.2.2 (([4, 10, 20, 0] : List Int))).bind fun bt182 => (some (bt161.1, bt161.2.1, bt161.2.2.1, bt168.1, bt168.2.1, bt168.2.2.1, bt175.1, wrap64 (bt175.1 + bt182.1), bt182.2.1, bt182.2.2)))))
theorem spec_l06DrawBehave.mono : ∀ a0 a1 a2 k, LeO (spec_l06DrawBehave.f k a0 a1 a2) (spec_l06DrawBehave.f (k + 1) a0 a1 a2) := by
  intro a0 a1 a2 k
  unfold spec_l06DrawBehave.f
  repeat' with_reducible first | exact spec_l06DrawSide.mono _ _ _ _ | exact LeO.refl _ | exact LeO.none _ | refine LeO.ite ?_ ?_ | refine LeO.bind ?_ (fun _ => ?_)
def spec_l06DrawBehave.T2 : Bool × List (List Nat × List Nat) := (true, [([], []), ([0], [0]), ([], []), ([], []), ([2, 3], [2, 3]), ([1, 4], [1, 4]), ([0, 1, 2, 3, 4, 5], []), ([6, 5, 4, 0, 1, 2, 3, 4, 5], [5, 6])])
def spec_l06DrawBehave.B2 : List Nat := [0, 1, 0, 0, 12, 31, 63, 127]
theorem spec_l06DrawBehave.tab2 : rtab .any (opsOf Try.f94 2) = spec_l06DrawBehave.T2 := by kernel_rfl
theorem spec_l06DrawBehave.bits2 : waitsOk spec_l06DrawBehave.T2.2 spec_l06DrawBehave.B2 = true := by kernel_rfl
set_option maxHeartbeats 8000000 in
set_option maxRecDepth 100000 in
theorem spec_l06DrawBehave.calls (k : Nat) (g : Nat) (s0_0 : List Int) (s0_1 : Int) (s0_2 : Int) (r1 : List (S96)) (r2 : Int) (r3 : Int) (r4 : List (S96)) (r5 : Int) (r6 : Int) (r7 : Int) (r8 : Int) (r9 : Int) (r10 : Int) (w0 w : World) (hI : IsS120 w0 w g s0_0 s0_1 s0_2) (hB : Below w0.heap.size w0 w) (h : spec_l06DrawBehave.f k s0_0 s0_1 s0_2 = some (r1, r2, r3, r4, r5, r6, r7, r8, r9, r10)) :
  Calls Try.prog 94 #[.pointer (some ⟨g, 0, none⟩)] w fun e w' => ∃ v0_ v3_ : Value, e = .returned (.agg #[v0_, .int .i64 r2, .int .i64 r3, v3_, .int .i64 r5, .int .i64 r6, .int .i64 r7, .int .i64 r8]) ∧ Kd.R k96 96 w' w.heap.size (fun k_ => some k_ ≠ (v3_ : Value).ownBlock) v0_ r1 ∧ Kd.R k96 96 w' w.heap.size (fun k_ => some k_ ≠ (v0_ : Value).ownBlock) v3_ r4 ∧ IsS120 w0 w' g s0_0 r9 r10 ∧ Below w0.heap.size w0 w' ∧ KeepBut w w' g none := by
 have hu35 := Try.underlying35
 have HI0 := ak_ hI
 have HK := ak_ (KeepBut.refl w g none)
 have HL := ak_ hB.size
 clear hI
 have HW0 := ak_ hB.size
 have HB := ak_ hB
 clear hB
 have H : ((spec_l06DrawSide.f k s0_0 s0_1 s0_2).bind fun bt161 => ((spec_l06DrawSide.f k s0_0 bt161.2.2.2.1 bt161.2.2.2.2).bind fun bt168 => ((spec_l01Below.f s0_0 bt168.2.2.2.1 bt168.2.2.2.2 4).bind fun bt175 => ((spec_l01PickInt.f s0_0 bt175.2.1 bt175.2.2 (([4, 10, 20, 0] : List Int))).bind fun bt182 => (some (bt161.1, bt161.2.1, bt161.2.2.1, bt168.1, bt168.2.1, bt168.2.2.1, bt175.1, wrap64 (bt175.1 + bt182.1), bt182.2.1, bt182.2.2)))))) = some (r1, r2, r3, r4, r5, r6, r7, r8, r9, r10) := h
 clear h
 replace H := Option.bind_eq_some_iff.mp H
 obtain ⟨⟨t161, t164, t165, t166, t167⟩, A20, H⟩ := H
 replace H : ((spec_l06DrawSide.f k s0_0 t166 t167).bind fun bt168 => ((spec_l01Below.f s0_0 bt168.2.2.2.1 bt168.2.2.2.2 4).bind fun bt175 => ((spec_l01PickInt.f s0_0 bt175.2.1 bt175.2.2 (([4, 10, 20, 0] : List Int))).bind fun bt182 => (some (t161, t164, t165, bt168.1, bt168.2.1, bt168.2.2.1, bt175.1, wrap64 (bt175.1 + bt182.1), bt182.2.1, bt182.2.2))))) = some (r1, r2, r3, r4, r5, r6, r7, r8, r9, r10) := H
 have A2 := ak_ A20
 clear A20
 replace H := Option.bind_eq_some_iff.mp H
 obtain ⟨⟨t168, t171, t172, t173, t174⟩, A30, H⟩ := H
 replace H : ((spec_l01Below.f s0_0 t173 t174 4).bind fun bt175 => ((spec_l01PickInt.f s0_0 bt175.2.1 bt175.2.2 (([4, 10, 20, 0] : List Int))).bind fun bt182 => (some (t161, t164, t165, t168, t171, t172, bt175.1, wrap64 (bt175.1 + bt182.1), bt182.2.1, bt182.2.2)))) = some (r1, r2, r3, r4, r5, r6, r7, r8, r9, r10) := H
 have A3 := ak_ A30
 clear A30
 replace H := Option.bind_eq_some_iff.mp H
 obtain ⟨⟨t175, t176, t177⟩, A40, H⟩ := H
 replace H : ((spec_l01PickInt.f s0_0 t176 t177 (([4, 10, 20, 0] : List Int))).bind fun bt182 => (some (t161, t164, t165, t168, t171, t172, t175, wrap64 (t175 + bt182.1), bt182.2.1, bt182.2.2))) = some (r1, r2, r3, r4, r5, r6, r7, r8, r9, r10) := H
 have A4 := ak_ A40
 clear A40
 obtain ⟨y179, hy179⟩ : ∃ y_ : List Int, y_ = (([4, 10, 20, 0] : List Int)) := ⟨_, rfl⟩
 replace H : ((spec_l01PickInt.f s0_0 t176 t177 y179).bind fun bt182 => (some (t161, t164, t165, t168, t171, t172, t175, wrap64 (t175 + bt182.1), bt182.2.1, bt182.2.2))) = some (r1, r2, r3, r4, r5, r6, r7, r8, r9, r10) := by first | (rw [hy179]; with_reducible exact H) | (have H2_ := (Option.bind_some _ _).symm.trans H; rw [hy179]; with_reducible exact H2_) | (have H2_ := (Option.bind_some _ _).symm.trans H; with_reducible exact H2_) | with_reducible exact H | (rw [hy179]; exact H) | exact H
 have Ny179 := ak_ hy179
 clear hy179
 replace H := Option.bind_eq_some_iff.mp H
 obtain ⟨⟨t182, t183, t184⟩, A50, H⟩ := H
 replace H : (some (t161, t164, t165, t168, t171, t172, t175, wrap64 (t175 + t182), t183, t184)) = some (r1, r2, r3, r4, r5, r6, r7, r8, r9, r10) := H
 have A5 := ak_ A50
 clear A50
 simp only [Option.some.injEq, Prod.mk.injEq] at H
 obtain ⟨rfl, rfl, rfl, rfl, rfl, rfl, rfl, rfl, rfl, rfl⟩ := H
 go_enter Try.func94, Try.ntmps94
 try go_wp2_with (first | ((with_reducible refine gate_dst (N := 2) rfl ?_); refine be_ (N := 2) (cs := #[.slice none 0 0, .int .i64 0, .int .i64 0, .slice none 0 0, .int .i64 0, .int .i64 0, .int .i64 0, .int .i64 0]) (t := 35) ?_; intro gb160 hg w6 hbox hb; replace HB := ak_ (below_step (hbi_ HB) hb); have BK160 := ak_ hbox; have GW160 := ak_ ((by rw [hg]; exact (keep_size (w := w) (g := g) (row := none) (hk_ HK)) : w.heap.size ≤ gb160)); have GE160 := ak_ ((Nat.le_trans HW0.out (by rw [hg]; exact (keep_size (w := w) (g := g) (row := none) (hk_ HK)) : w.heap.size ≤ gb160) : w0.heap.size ≤ gb160)); replace HK := ak_ (KeepBut.trans (hk_ HK) (KeepBut.of_below hb g none) (.inl rfl)); have NB0_160 := ak_ ((by rw [hg]; exact Nat.ne_of_lt (IsS120.lt (show IsS120 w0 _ g s0_0 s0_1 s0_2 from si_)) : g ≠ gb160)); have NB160_0 := ak_ ((by rw [hg]; exact Nat.ne_of_gt (IsS120.lt (show IsS120 w0 _ g s0_0 s0_1 s0_2 from si_)) : gb160 ≠ g)); replace HI0 := ak_ (IsS120.below si_ hb); clear hb hbox hg) | ((with_reducible refine gate_callee (f := 100) rfl ?_); refine goesL_ (some 5) rfl rfl Try.func100 (by kernel_rfl) rfl #[.pointer (some ⟨g, 0, none⟩)] rfl (ma1_ rfl) ?_; (with_reducible refine (spec_l06DrawSide.calls k g s0_0 s0_1 s0_2 t161 t164 t165 t166 t167 w0 _ ?side1 ?side2 A2.out).mono ?_); (case side1 => exact si_); (case side2 => exact (hbi_ HB)); rintro e w7 ⟨v162, rfl, ho0, hi, hb, hk⟩; refine ⟨_, rfl, ?_⟩; replace BK160 := ak_ (KeepBut.blk hk (g' := gb160) (o := .cells #[.slice none 0 0, .int .i64 0, .int .i64 0, .slice none 0 0, .int .i64 0, .int .i64 0, .int .i64 0, .int .i64 0] 35 (0, 0)) (by (with_reducible repeat (first | refine kn_ ?_ _ | refine kd_ ?_ | refine ka_ ?_ _)); exact BK160.out) NB160_0.out (by simp)); have HO163 := ak_ (Kd.R_lower ho0 (keep_size (w := w) (g := g) (row := none) (hk_ HK))); replace HK := ak_ (KeepBut.trans (hk_ HK) hk (.inl rfl)); replace HB := ak_ hb; replace HI0 := ak_ hi; (try clear hb); (try clear hk); (try clear hi); (try clear ho0)) | ((with_reducible refine gate_callee (f := 100) rfl ?_); refine goesL_ (some 7) rfl rfl Try.func100 (by kernel_rfl) rfl #[.pointer (some ⟨g, 0, none⟩)] rfl (ma1_ rfl) ?_; (with_reducible refine (spec_l06DrawSide.calls k g s0_0 t166 t167 t168 t171 t172 t173 t174 w0 _ ?side1 ?side2 A3.out).mono ?_); (case side1 => exact si_); (case side2 => exact (hbi_ HB)); rintro e w8 ⟨v169, rfl, ho0, hi, hb, hk⟩; refine ⟨_, rfl, ?_⟩; replace BK160 := ak_ (KeepBut.blk hk (g' := gb160) (o := .cells #[.slice none 0 0, .int .i64 0, .int .i64 0, .slice none 0 0, .int .i64 0, .int .i64 0, .int .i64 0, .int .i64 0] 35 (0, 0)) (by (with_reducible repeat (first | refine kn_ ?_ _ | refine kd_ ?_ | refine ka_ ?_ _)); exact BK160.out) NB160_0.out (by simp)); have HO170 := ak_ (Kd.R_lower (Kd.R_new' ho0 (Kd.R_lt (ro_ HO163))) (keep_size (w := w) (g := g) (row := none) (hk_ HK))); replace HO163 := ak_ (Kd.R_mono (Kd.R_told (Kd.R_oldK (IsS120.apart (show IsS120 w0 _ g s0_0 t166 t167 from si_) (ro_ HO163) (by decide)) hk) (Kd.R_base ho0)) (fun _ h_ => h_.1)); replace HK := ak_ (KeepBut.trans (hk_ HK) hk (.inl rfl)); replace HB := ak_ hb; replace HI0 := ak_ hi; (try clear hb); (try clear hk); (try clear hi); (try clear ho0)) | ((with_reducible refine gate_callee (f := 96) rfl ?_); refine goesL_ (some 9) rfl rfl Try.func96 (by kernel_rfl) rfl #[.pointer (some ⟨g, 0, none⟩), .int .i64 4] rfl (ma2_ rfl rfl) ?_; (with_reducible refine (spec_l01Below.calls g s0_0 t173 t174 4 t175 t176 t177 w0 _ ?side1 ?side2 A4.out).mono ?_); (case side1 => exact si_); (case side2 => exact (hbi_ HB)); rintro e w9 ⟨rfl, hi, hb, hk⟩; refine ⟨_, rfl, ?_⟩; replace BK160 := ak_ (KeepBut.blk hk (g' := gb160) (o := .cells #[.slice none 0 0, .int .i64 0, .int .i64 0, .slice none 0 0, .int .i64 0, .int .i64 0, .int .i64 0, .int .i64 0] 35 (0, 0)) (by (with_reducible repeat (first | refine kn_ ?_ _ | refine kd_ ?_ | refine ka_ ?_ _)); exact BK160.out) NB160_0.out (by simp)); replace HO163 := ak_ (Kd.R_mono (Kd.R_keep (IsS120.apart (show IsS120 w0 _ g s0_0 t173 t174 from si_) (ro_ HO163) (by decide)) hk (fun _ h => h.2)) (fun _ h => h.1)); replace HO170 := ak_ (Kd.R_mono (Kd.R_keep (IsS120.apart (show IsS120 w0 _ g s0_0 t173 t174 from si_) (ro_ HO170) (by decide)) hk (fun _ h => h.2)) (fun _ h => h.1)); replace HK := ak_ (KeepBut.trans (hk_ HK) hk (.inl rfl)); replace HB := ak_ hb; replace HI0 := ak_ hi; (try clear hb); (try clear hk); (try clear hi); obtain ⟨Ao10, co10, eo10⟩ := Kd.R_slice HO170.out; subst eo10; obtain ⟨Ao11, co11, eo11⟩ := Kd.R_slice HO163.out; subst eo11) | ((with_reducible refine gate_dst (N := 3) rfl ?_); refine be_ (N := 3) (cs := #[.slice none 0 0, .int .i64 0, .int .i64 0, .slice none 0 0, .int .i64 0, .int .i64 0, .int .i64 0, .int .i64 0]) (t := 35) ?_; intro gb178 hg w12 hbox hb; replace HO163 := ak_ (Kd.R_below (ro_ HO163) hb); replace HO170 := ak_ (Kd.R_below (ro_ HO170) hb); replace HB := ak_ (below_step (hbi_ HB) hb); have BK178 := ak_ hbox; have GW178 := ak_ ((by rw [hg]; exact (keep_size (w := w) (g := g) (row := none) (hk_ HK)) : w.heap.size ≤ gb178)); have GE178 := ak_ ((Nat.le_trans HW0.out (by rw [hg]; exact (keep_size (w := w) (g := g) (row := none) (hk_ HK)) : w.heap.size ≤ gb178) : w0.heap.size ≤ gb178)); replace HK := ak_ (KeepBut.trans (hk_ HK) (KeepBut.of_below hb g none) (.inl rfl)); have NB160_178 := ak_ (nl_ hg (bk_ BK160)); have NB178_160 := ak_ (ng_ hg (bk_ BK160)); replace BK160 := ak_ (blk_below (bk_ BK160) hb); have NB0_178 := ak_ ((by rw [hg]; exact Nat.ne_of_lt (IsS120.lt (show IsS120 w0 _ g s0_0 t176 t177 from si_)) : g ≠ gb178)); have NB178_0 := ak_ ((by rw [hg]; exact Nat.ne_of_gt (IsS120.lt (show IsS120 w0 _ g s0_0 t176 t177 from si_)) : gb178 ≠ g)); replace HI0 := ak_ (IsS120.below si_ hb); clear hb hbox hg; have hnb13 := NB178_160.out; have hnc13 := NB160_178.out; have hnb14 := NB178_0.out; have hnc14 := NB0_178.out; obtain ⟨hcz15_0, hcz15_1, hcz15_2, hcz15_3, hcz15_4, hcz15_5, hcz15_6, hcz15_7, hfz15_0, hfz15_1, hfz15_2, hfz15_3, hfz15_4, hfz15_5, hfz15_6, hfz15_7⟩ := bc8_ BK178.out))
 have n0_ : Aside0 (Kd.R k96 96 ((((((((w12.setCell ⟨gb178, 0, none⟩ (.slice Ao11 t161.length co11)).setCell ⟨gb178, 1, none⟩ (.int .i64 t164)).setCell ⟨gb178, 2, none⟩ (.int .i64 t165)).setCell ⟨gb178, 3, none⟩ (.slice Ao10 t168.length co10)).setCell ⟨gb178, 4, none⟩ (.int .i64 t171)).setCell ⟨gb178, 5, none⟩ (.int .i64 t172)).setCell ⟨gb178, 6, none⟩ (.int .i64 t175)).setCell ⟨gb178, 7, none⟩ (.int .i64 0)) w.heap.size (fun k_ => some k_ ≠ (.slice Ao10 t168.length co10 : Value).ownBlock) (.slice Ao11 t161.length co11) t161) := ⟨by (with_reducible repeat (first | apply Kd.R_alloc | apply Kd.R_drewN | apply Kd.R_drew)); exact Kd.R_mono (Kd.R_far (p := ⟨gb178, 7, none⟩) (Kd.R_far (p := ⟨gb178, 6, none⟩) (Kd.R_far (p := ⟨gb178, 5, none⟩) (Kd.R_far (p := ⟨gb178, 4, none⟩) (Kd.R_far (p := ⟨gb178, 3, none⟩) (Kd.R_far (p := ⟨gb178, 2, none⟩) (Kd.R_far (p := ⟨gb178, 1, none⟩) (Kd.R_far (p := ⟨gb178, 0, none⟩) (Kd.R_types HO163.out BK178.out (by decide)) (fun _ hk => hk.2) (.slice Ao11 t161.length co11)) (fun _ hk => hk.2) (.int .i64 t164)) (fun _ hk => hk.2) (.int .i64 t165)) (fun _ hk => hk.2) (.slice Ao10 t168.length co10)) (fun _ hk => hk.2) (.int .i64 t171)) (fun _ hk => hk.2) (.int .i64 t172)) (fun _ hk => hk.2) (.int .i64 t175)) (fun _ hk => hk.2) (.int .i64 0)) (fun _ hk => hk.1.2)⟩
 have n1_ : Aside0 (Kd.R k96 96 ((((((((w12.setCell ⟨gb178, 0, none⟩ (.slice Ao11 t161.length co11)).setCell ⟨gb178, 1, none⟩ (.int .i64 t164)).setCell ⟨gb178, 2, none⟩ (.int .i64 t165)).setCell ⟨gb178, 3, none⟩ (.slice Ao10 t168.length co10)).setCell ⟨gb178, 4, none⟩ (.int .i64 t171)).setCell ⟨gb178, 5, none⟩ (.int .i64 t172)).setCell ⟨gb178, 6, none⟩ (.int .i64 t175)).setCell ⟨gb178, 7, none⟩ (.int .i64 0)) w.heap.size (fun k_ => some k_ ≠ (.slice Ao11 t161.length co11 : Value).ownBlock) (.slice Ao10 t168.length co10) t168) := ⟨by (with_reducible repeat (first | apply Kd.R_alloc | apply Kd.R_drewN | apply Kd.R_drew)); exact Kd.R_mono (Kd.R_far (p := ⟨gb178, 7, none⟩) (Kd.R_far (p := ⟨gb178, 6, none⟩) (Kd.R_far (p := ⟨gb178, 5, none⟩) (Kd.R_far (p := ⟨gb178, 4, none⟩) (Kd.R_far (p := ⟨gb178, 3, none⟩) (Kd.R_far (p := ⟨gb178, 2, none⟩) (Kd.R_far (p := ⟨gb178, 1, none⟩) (Kd.R_far (p := ⟨gb178, 0, none⟩) (Kd.R_types HO170.out BK178.out (by decide)) (fun _ hk => hk.2) (.slice Ao11 t161.length co11)) (fun _ hk => hk.2) (.int .i64 t164)) (fun _ hk => hk.2) (.int .i64 t165)) (fun _ hk => hk.2) (.slice Ao10 t168.length co10)) (fun _ hk => hk.2) (.int .i64 t171)) (fun _ hk => hk.2) (.int .i64 t172)) (fun _ hk => hk.2) (.int .i64 t175)) (fun _ hk => hk.2) (.int .i64 0)) (fun _ hk => hk.1.2)⟩
 have n2_ : Aside0 (((((((((w12.setCell ⟨gb178, 0, none⟩ (.slice Ao11 t161.length co11)).setCell ⟨gb178, 1, none⟩ (.int .i64 t164)).setCell ⟨gb178, 2, none⟩ (.int .i64 t165)).setCell ⟨gb178, 3, none⟩ (.slice Ao10 t168.length co10)).setCell ⟨gb178, 4, none⟩ (.int .i64 t171)).setCell ⟨gb178, 5, none⟩ (.int .i64 t172)).setCell ⟨gb178, 6, none⟩ (.int .i64 t175)).setCell ⟨gb178, 7, none⟩ (.int .i64 0)).heap[gb160]? = some (.cells #[.slice none 0 0, .int .i64 0, .int .i64 0, .slice none 0 0, .int .i64 0, .int .i64 0, .int .i64 0, .int .i64 0] 35 (0, 0))) := ⟨by (with_reducible repeat (first | refine kn_ ?_ _ | refine kd_ ?_ | refine ka_ ?_ _)); refine blk_far ?_ NB160_178.out _; (with_reducible repeat (first | refine kn_ ?_ _ | refine kd_ ?_ | refine ka_ ?_ _)); refine blk_far ?_ NB160_178.out _; (with_reducible repeat (first | refine kn_ ?_ _ | refine kd_ ?_ | refine ka_ ?_ _)); refine blk_far ?_ NB160_178.out _; (with_reducible repeat (first | refine kn_ ?_ _ | refine kd_ ?_ | refine ka_ ?_ _)); refine blk_far ?_ NB160_178.out _; (with_reducible repeat (first | refine kn_ ?_ _ | refine kd_ ?_ | refine ka_ ?_ _)); refine blk_far ?_ NB160_178.out _; (with_reducible repeat (first | refine kn_ ?_ _ | refine kd_ ?_ | refine ka_ ?_ _)); refine blk_far ?_ NB160_178.out _; (with_reducible repeat (first | refine kn_ ?_ _ | refine kd_ ?_ | refine ka_ ?_ _)); refine blk_far ?_ NB160_178.out _; (with_reducible repeat (first | refine kn_ ?_ _ | refine kd_ ?_ | refine ka_ ?_ _)); refine blk_far ?_ NB160_178.out _; (with_reducible repeat (first | refine kn_ ?_ _ | refine kd_ ?_ | refine ka_ ?_ _)); exact BK160.out⟩
 have n3_ : Aside0 (((((((((w12.setCell ⟨gb178, 0, none⟩ (.slice Ao11 t161.length co11)).setCell ⟨gb178, 1, none⟩ (.int .i64 t164)).setCell ⟨gb178, 2, none⟩ (.int .i64 t165)).setCell ⟨gb178, 3, none⟩ (.slice Ao10 t168.length co10)).setCell ⟨gb178, 4, none⟩ (.int .i64 t171)).setCell ⟨gb178, 5, none⟩ (.int .i64 t172)).setCell ⟨gb178, 6, none⟩ (.int .i64 t175)).setCell ⟨gb178, 7, none⟩ (.int .i64 0)).heap[gb178]? = some (.cells #[.slice Ao11 t161.length co11, .int .i64 t164, .int .i64 t165, .slice Ao10 t168.length co10, .int .i64 t171, .int .i64 t172, .int .i64 t175, .int .i64 0] 35 (0, 0))) := ⟨by (with_reducible repeat (first | refine kn_ ?_ _ | refine kd_ ?_ | refine ka_ ?_ _)); refine blk_put (cs := #[.slice Ao11 t161.length co11, .int .i64 t164, .int .i64 t165, .slice Ao10 t168.length co10, .int .i64 t171, .int .i64 t172, .int .i64 t175, .int .i64 0]) ?_ 7 _ rfl; (with_reducible repeat (first | refine kn_ ?_ _ | refine kd_ ?_ | refine ka_ ?_ _)); refine blk_put (cs := #[.slice Ao11 t161.length co11, .int .i64 t164, .int .i64 t165, .slice Ao10 t168.length co10, .int .i64 t171, .int .i64 t172, .int .i64 0, .int .i64 0]) ?_ 6 _ rfl; (with_reducible repeat (first | refine kn_ ?_ _ | refine kd_ ?_ | refine ka_ ?_ _)); refine blk_put (cs := #[.slice Ao11 t161.length co11, .int .i64 t164, .int .i64 t165, .slice Ao10 t168.length co10, .int .i64 t171, .int .i64 0, .int .i64 0, .int .i64 0]) ?_ 5 _ rfl; (with_reducible repeat (first | refine kn_ ?_ _ | refine kd_ ?_ | refine ka_ ?_ _)); refine blk_put (cs := #[.slice Ao11 t161.length co11, .int .i64 t164, .int .i64 t165, .slice Ao10 t168.length co10, .int .i64 0, .int .i64 0, .int .i64 0, .int .i64 0]) ?_ 4 _ rfl; (with_reducible repeat (first | refine kn_ ?_ _ | refine kd_ ?_ | refine ka_ ?_ _)); refine blk_put (cs := #[.slice Ao11 t161.length co11, .int .i64 t164, .int .i64 t165, .slice none 0 0, .int .i64 0, .int .i64 0, .int .i64 0, .int .i64 0]) ?_ 3 _ rfl; (with_reducible repeat (first | refine kn_ ?_ _ | refine kd_ ?_ | refine ka_ ?_ _)); refine blk_put (cs := #[.slice Ao11 t161.length co11, .int .i64 t164, .int .i64 0, .slice none 0 0, .int .i64 0, .int .i64 0, .int .i64 0, .int .i64 0]) ?_ 2 _ rfl; (with_reducible repeat (first | refine kn_ ?_ _ | refine kd_ ?_ | refine ka_ ?_ _)); refine blk_put (cs := #[.slice Ao11 t161.length co11, .int .i64 0, .int .i64 0, .slice none 0 0, .int .i64 0, .int .i64 0, .int .i64 0, .int .i64 0]) ?_ 1 _ rfl; (with_reducible repeat (first | refine kn_ ?_ _ | refine kd_ ?_ | refine ka_ ?_ _)); refine blk_put (cs := #[.slice none 0 0, .int .i64 0, .int .i64 0, .slice none 0 0, .int .i64 0, .int .i64 0, .int .i64 0, .int .i64 0]) ?_ 0 _ rfl; (with_reducible repeat (first | refine kn_ ?_ _ | refine kd_ ?_ | refine ka_ ?_ _)); exact BK178.out⟩
 have n4_ : Aside0 (IsS120 w0 ((((((((w12.setCell ⟨gb178, 0, none⟩ (.slice Ao11 t161.length co11)).setCell ⟨gb178, 1, none⟩ (.int .i64 t164)).setCell ⟨gb178, 2, none⟩ (.int .i64 t165)).setCell ⟨gb178, 3, none⟩ (.slice Ao10 t168.length co10)).setCell ⟨gb178, 4, none⟩ (.int .i64 t171)).setCell ⟨gb178, 5, none⟩ (.int .i64 t172)).setCell ⟨gb178, 6, none⟩ (.int .i64 t175)).setCell ⟨gb178, 7, none⟩ (.int .i64 0)) g s0_0 t176 t177) := ⟨si_⟩
 have n5_ : Aside0 (KeepBut w ((((((((w12.setCell ⟨gb178, 0, none⟩ (.slice Ao11 t161.length co11)).setCell ⟨gb178, 1, none⟩ (.int .i64 t164)).setCell ⟨gb178, 2, none⟩ (.int .i64 t165)).setCell ⟨gb178, 3, none⟩ (.slice Ao10 t168.length co10)).setCell ⟨gb178, 4, none⟩ (.int .i64 t171)).setCell ⟨gb178, 5, none⟩ (.int .i64 t172)).setCell ⟨gb178, 6, none⟩ (.int .i64 t175)).setCell ⟨gb178, 7, none⟩ (.int .i64 0)) g none) := ⟨(hk_ HK)⟩
 have n6_ : Aside0 (Below w0.heap.size w0 ((((((((w12.setCell ⟨gb178, 0, none⟩ (.slice Ao11 t161.length co11)).setCell ⟨gb178, 1, none⟩ (.int .i64 t164)).setCell ⟨gb178, 2, none⟩ (.int .i64 t165)).setCell ⟨gb178, 3, none⟩ (.slice Ao10 t168.length co10)).setCell ⟨gb178, 4, none⟩ (.int .i64 t171)).setCell ⟨gb178, 5, none⟩ (.int .i64 t172)).setCell ⟨gb178, 6, none⟩ (.int .i64 t175)).setCell ⟨gb178, 7, none⟩ (.int .i64 0))) := ⟨(hbi_ HB)⟩
 (try clear HO163)
 (try clear HO170)
 (try clear BK160)
 (try clear BK178)
 (try clear HI0)
 (try clear HK)
 (try clear HB)
 generalize ((((((((w12.setCell ⟨gb178, 0, none⟩ (.slice Ao11 t161.length co11)).setCell ⟨gb178, 1, none⟩ (.int .i64 t164)).setCell ⟨gb178, 2, none⟩ (.int .i64 t165)).setCell ⟨gb178, 3, none⟩ (.slice Ao10 t168.length co10)).setCell ⟨gb178, 4, none⟩ (.int .i64 t171)).setCell ⟨gb178, 5, none⟩ (.int .i64 t172)).setCell ⟨gb178, 6, none⟩ (.int .i64 t175)).setCell ⟨gb178, 7, none⟩ (.int .i64 0)) = w16 at n0_ n1_ n2_ n3_ n4_ n5_ n6_ ⊢
 have HO163 := n0_
 have HO170 := n1_
 have BK160 := n2_
 have BK178 := n3_
 have HI0 := n4_
 have HK := n5_
 have HB := n6_
 clear n0_ n1_ n2_ n3_ n4_ n5_ n6_
 replace HO163 := ak_ (Kd.R_drew HO163.out)
 replace HO170 := ak_ (Kd.R_drew HO170.out)
 replace BK160 := ak_ (blk_drew BK160.out)
 replace BK178 := ak_ (blk_drew BK178.out)
 replace HI0 := ak_ (IsS120.drew HI0.out)
 replace HK := ak_ (keep_drew HK.out)
 replace HB := ak_ (below_drew1 HB.out)
 refine start_ (n := 8) (S := fun w' => w'.cell? ⟨gb178, 0, none⟩ = some (.slice Ao11 t161.length co11) ∧ w'.cell? ⟨gb178, 1, none⟩ = some (.int .i64 t164) ∧ w'.cell? ⟨gb178, 2, none⟩ = some (.int .i64 t165) ∧ w'.cell? ⟨gb178, 3, none⟩ = some (.slice Ao10 t168.length co10) ∧ w'.cell? ⟨gb178, 4, none⟩ = some (.int .i64 t171) ∧ w'.cell? ⟨gb178, 5, none⟩ = some (.int .i64 t172) ∧ w'.cell? ⟨gb178, 6, none⟩ = some (.int .i64 t175) ∧ w'.cell? ⟨gb178, 7, none⟩ = some (.int .i64 0)) (ds := [7]) #[false, false, false, false, false, false, false, false] (by kernel_rfl) rfl rfl ⟨(blk_cell BK178.out 0).trans rfl, (blk_cell BK178.out 1).trans rfl, (blk_cell BK178.out 2).trans rfl, (blk_cell BK178.out 3).trans rfl, (blk_cell BK178.out 4).trans rfl, (blk_cell BK178.out 5).trans rfl, (blk_cell BK178.out 6).trans rfl, (blk_cell BK178.out 7).trans rfl⟩ (fun hHeld => ?_); refine with_tabW spec_l06DrawBehave.tab2 spec_l06DrawBehave.bits2 (fun HT_ HW_ => ?_)
 generalize w16.drew = w17 at HO163 HO170 BK160 BK178 HI0 HK HB hHeld ⊢
 refine p1_ (i := 0) (N := some 11) #[true, false, false, false, false, false, false, false] (any_of HT_.out (by kernel_rfl)) ?_
 refine p1_ (i := 2) (N := some 13) #[true, false, true, false, false, false, false, false] (any_of HT_.out (by kernel_rfl)) ?_
 refine take_ (i := 1) (N := some 12) (v := ?_) (a' := ?_) #[true, true, true, false, false, false, false, false] rfl rfl (take_ofW HT_.out HW_.out (by kernel_rfl)) (fun _ _ _ h => h) (Or.inl ⟨by rfl, ?_⟩) hHeld ?_ ?_; rotate_left; (rintro w' ⟨s0, s1, s2, s3, s4, s5, s6, s7⟩; go_simp; with_reducible rfl); rotate_left; (simp only [Act.put, List.setIfInBounds_toArray, List.set_cons_zero, List.set_cons_succ, i64_w, i32_w]; rfl)
 refine one_ (i := 3) (N := some 14) #[true, true, true, true, false, false, false, false] rfl rfl (one_of HT_.out (by kernel_rfl)) (by decide) (fun K hK => ?_)
 refine Kd.R_lit_step (Kd.int .i64) _ 3 ?hg (N := 14) ?hd (xs := ([4, 10, 20, 0] : List Int)) (inner := [.int .i64 4, .int .i64 10, .int .i64 20, .int .i64 0]) (ok := fun _ => True) (okp := fun _ => True) ?hr ?hp (fun _ hk => hk) trivial (Below.refl _ _) (Nat.le_refl _) (by simp) ?_; (case hd => rfl); (case hg => rfl); (case hr => first | (go_simp; done) | (go_simp; rfl)); (case hp => exact (Reps.one (show Kd.M (Kd.int .i64) _ _ _ 4 [.int .i64 4] from rfl) (Reps.one (show Kd.M (Kd.int .i64) _ _ _ 10 [.int .i64 10] from rfl) (Reps.one (show Kd.M (Kd.int .i64) _ _ _ 20 [.int .i64 20] from rfl) (Reps.one (show Kd.M (Kd.int .i64) _ _ _ 0 [.int .i64 0] from rfl) (Reps.none _ _))))))
 intro v180 w18 ho19 hb hg_ hnew_
 clear hg_ hnew_
 (first | rw [← Ny179.out] at ho19 | (simp only [Int.reduceToNat] at ho19; rw [← Ny179.out] at ho19))
 replace HO163 := ak_ (Kd.R_below (ro_ HO163) hb)
 replace HO170 := ak_ (Kd.R_below (ro_ HO170) hb)
 have HO181 := ak_ (Kd.R_lower ho19 (keep_size (w := w) (g := g) (row := none) (hk_ HK)))
 replace BK160 := ak_ (blk_below (bk_ BK160) hb)
 replace BK178 := ak_ (blk_below (bk_ BK178) hb)
 replace HK := ak_ (KeepBut.trans (hk_ HK) (KeepBut.of_below hb g none) (.inl rfl))
 replace HB := ak_ (below_step (hbi_ HB) hb)
 replace HI0 := ak_ (IsS120.below si_ hb)
 clear hb ho19
 obtain ⟨Ao20, co20, eo20⟩ := Kd.R_slice HO181.out
 (first | subst eo20 | (injection eo20 with f1_ f2_ f3_; have f4_ := f1_.symm; have f5_ := f3_.symm; clear f1_ f2_ f3_; subst f4_; subst f5_))
 refine hK.out _ _ ⟨(blk_cell BK178.out 0).trans rfl, (blk_cell BK178.out 1).trans rfl, (blk_cell BK178.out 2).trans rfl, (blk_cell BK178.out 3).trans rfl, (blk_cell BK178.out 4).trans rfl, (blk_cell BK178.out 5).trans rfl, (blk_cell BK178.out 6).trans rfl, (blk_cell BK178.out 7).trans rfl⟩ (fun hHeld => ?_)
 clear hK K
 refine norm_ (a' := ?_) ?_ ?_
 rotate_left
 ·show Act.put _ (some 14) _ = _
  simp only [Act.put, List.setIfInBounds_toArray, List.set_cons_zero, List.set_cons_succ, i64_w, i32_w]
  rfl
 refine one_ (i := 4) (N := some 15) #[true, true, true, true, true, false, false, false] rfl rfl (one_of HT_.out (by kernel_rfl)) (by decide) (fun K hK => ?_)
 refine goes_ Try.func97 (by kernel_rfl) rfl #[.pointer (some ⟨g, 0, none⟩), .slice Ao20 y179.length co20] (by rfl) rfl rfl (ma2_ rfl rfl) ?_
 with_reducible refine (spec_l01PickInt.calls g s0_0 t176 t177 _ _ y179 t182 t183 t184 w0 _ ?side1 ?side2 ?side3 ?side4 ?side5 A5.out).mono ?_
 (case side1 => exact si_)
 (case side2 => exact (hbi_ HB))
 (case side3 => repeat (first | exact (Kd.R_reads' HO181.out).2.2 | (with_reducible refine Kd.C_alloc ?_ _) | (with_reducible refine Kd.C_drewN ?_ _) | (with_reducible refine Kd.C_drew ?_)))
 (case side4 => exact (Kd.R_reads' HO181.out).2.1)
 (case side5 => exact far_slice (IsS120.own_ne HI0.out HO181.out (by decide)))
 rintro e w21 ⟨rfl, hi, hb, hk⟩
 refine ⟨_, rfl, ?_⟩
 replace BK160 := ak_ (KeepBut.blk hk (g' := gb160) (o := .cells #[.slice none 0 0, .int .i64 0, .int .i64 0, .slice none 0 0, .int .i64 0, .int .i64 0, .int .i64 0, .int .i64 0] 35 (0, 0)) (by (with_reducible repeat (first | refine kn_ ?_ _ | refine kd_ ?_ | refine ka_ ?_ _)); exact BK160.out) NB160_0.out (by simp))
 replace HO163 := ak_ (Kd.R_mono (Kd.R_keep (IsS120.apart (show IsS120 w0 _ g s0_0 t176 t177 from si_) (ro_ HO163) (by decide)) hk (fun _ h => h.2)) (fun _ h => h.1))
 replace HO170 := ak_ (Kd.R_mono (Kd.R_keep (IsS120.apart (show IsS120 w0 _ g s0_0 t176 t177 from si_) (ro_ HO170) (by decide)) hk (fun _ h => h.2)) (fun _ h => h.1))
 replace BK178 := ak_ (KeepBut.blk hk (g' := gb178) (o := .cells #[.slice Ao11 t161.length co11, .int .i64 t164, .int .i64 t165, .slice Ao10 t168.length co10, .int .i64 t171, .int .i64 t172, .int .i64 t175, .int .i64 0] 35 (0, 0)) (by (with_reducible repeat (first | refine kn_ ?_ _ | refine kd_ ?_ | refine ka_ ?_ _)); exact BK178.out) NB178_0.out (by simp))
 replace HO181 := ak_ (Kd.R_mono (Kd.R_keep (IsS120.apart (show IsS120 w0 _ g s0_0 t176 t177 from si_) (ro_ HO181) (by decide)) hk (fun _ h => h.2)) (fun _ h => h.1))
 replace HK := ak_ (KeepBut.trans (hk_ HK) hk (.inl rfl))
 replace HB := ak_ hb
 replace HI0 := ak_ hi
 (try clear hb)
 (try clear hb2)
 (try clear hk)
 (try clear hi)
 refine hK.out _ _ ⟨(blk_cell BK178.out 0).trans rfl, (blk_cell BK178.out 1).trans rfl, (blk_cell BK178.out 2).trans rfl, (blk_cell BK178.out 3).trans rfl, (blk_cell BK178.out 4).trans rfl, (blk_cell BK178.out 5).trans rfl, (blk_cell BK178.out 6).trans rfl, (blk_cell BK178.out 7).trans rfl⟩ (fun hHeld => ?_)
 clear hK K
 refine norm_ (a' := ?_) ?_ ?_
 rotate_left
 ·show Act.put _ (some 15) _ = _
  simp only [Act.put, List.setIfInBounds_toArray, List.set_cons_zero, List.set_cons_succ, i64_w, i32_w]
  rfl
 refine p1_ (i := 5) (N := some 16) #[true, true, true, true, true, true, false, false] (any_of HT_.out (by kernel_rfl)) ?_
 refine p1_ (i := 6) (N := some 17) #[true, true, true, true, true, true, true, false] (any_of HT_.out (by kernel_rfl)) ?_
 refine last_ (i := 7) (N := none) #[true, true, true, true, true, true, true, true] rfl rfl (one_of HT_.out (by kernel_rfl)) (by decide) (fun K hK => ?_)
 have hs22 : w21.cell? ⟨gb178, 7, none⟩ = some (.int .i64 0) := (blk_cell BK178.out 7).trans rfl
 have hfs22 := blk_frozen BK178.out 7
 have hns22_0 := NB160_178.out
 have hms22_0 := NB178_160.out
 refine skip_ (w1 := ?_) (by rfl) rfl ?_ ?_
 rotate_left
 ·go_simp
  rfl
 refine hK.out _ _ ?_
 clear hK K
 refine done_ (done_of HT_.out (by kernel_rfl)) ?_
 obtain ⟨hcz23_0, hcz23_1, hcz23_2, hcz23_3, hcz23_4, hcz23_5, hcz23_6, hcz23_7, hfz23_0, hfz23_1, hfz23_2, hfz23_3, hfz23_4, hfz23_5, hfz23_6, hfz23_7⟩ := bc8_ BK178.out
 have hnb24 := NB160_0.out
 have hnc24 := NB0_160.out
 obtain ⟨hcz25_0, hcz25_1, hcz25_2, hcz25_3, hcz25_4, hcz25_5, hcz25_6, hcz25_7, hfz25_0, hfz25_1, hfz25_2, hfz25_3, hfz25_4, hfz25_5, hfz25_6, hfz25_7⟩ := bc8_ BK160.out
 try go_wp2
 refine bodyPost_ret (results_cell_row rfl _ _ gb160 35 #[.slice Ao11 t161.length co11, .int .i64 t164, .int .i64 t165, .slice Ao10 t168.length co10, .int .i64 t171, .int .i64 t172, .int .i64 t175, .int .i64 (wrap64 (t175 + t182))] (0, 0) _ rfl (by (with_reducible repeat (first | refine kn_ ?_ _ | refine kd_ ?_ | refine ka_ ?_ _)); refine blk_put (cs := #[.slice Ao11 t161.length co11, .int .i64 t164, .int .i64 t165, .slice Ao10 t168.length co10, .int .i64 t171, .int .i64 t172, .int .i64 t175, .int .i64 0]) ?_ 7 _ rfl; (with_reducible repeat (first | refine kn_ ?_ _ | refine kd_ ?_ | refine ka_ ?_ _)); refine blk_put (cs := #[.slice Ao11 t161.length co11, .int .i64 t164, .int .i64 t165, .slice Ao10 t168.length co10, .int .i64 t171, .int .i64 t172, .int .i64 0, .int .i64 0]) ?_ 6 _ rfl; (with_reducible repeat (first | refine kn_ ?_ _ | refine kd_ ?_ | refine ka_ ?_ _)); refine blk_put (cs := #[.slice Ao11 t161.length co11, .int .i64 t164, .int .i64 t165, .slice Ao10 t168.length co10, .int .i64 t171, .int .i64 0, .int .i64 0, .int .i64 0]) ?_ 5 _ rfl; (with_reducible repeat (first | refine kn_ ?_ _ | refine kd_ ?_ | refine ka_ ?_ _)); refine blk_put (cs := #[.slice Ao11 t161.length co11, .int .i64 t164, .int .i64 t165, .slice Ao10 t168.length co10, .int .i64 0, .int .i64 0, .int .i64 0, .int .i64 0]) ?_ 4 _ rfl; (with_reducible repeat (first | refine kn_ ?_ _ | refine kd_ ?_ | refine ka_ ?_ _)); refine blk_put (cs := #[.slice Ao11 t161.length co11, .int .i64 t164, .int .i64 t165, .slice none 0 0, .int .i64 0, .int .i64 0, .int .i64 0, .int .i64 0]) ?_ 3 _ rfl; (with_reducible repeat (first | refine kn_ ?_ _ | refine kd_ ?_ | refine ka_ ?_ _)); refine blk_put (cs := #[.slice Ao11 t161.length co11, .int .i64 t164, .int .i64 0, .slice none 0 0, .int .i64 0, .int .i64 0, .int .i64 0, .int .i64 0]) ?_ 2 _ rfl; (with_reducible repeat (first | refine kn_ ?_ _ | refine kd_ ?_ | refine ka_ ?_ _)); refine blk_put (cs := #[.slice Ao11 t161.length co11, .int .i64 0, .int .i64 0, .slice none 0 0, .int .i64 0, .int .i64 0, .int .i64 0, .int .i64 0]) ?_ 1 _ rfl; (with_reducible repeat (first | refine kn_ ?_ _ | refine kd_ ?_ | refine ka_ ?_ _)); refine blk_put (cs := #[.slice none 0 0, .int .i64 0, .int .i64 0, .slice none 0 0, .int .i64 0, .int .i64 0, .int .i64 0, .int .i64 0]) ?_ 0 _ rfl; (with_reducible repeat (first | refine kn_ ?_ _ | refine kd_ ?_ | refine ka_ ?_ _)); refine blk_far ?_ NB160_178.out _; (with_reducible repeat (first | refine kn_ ?_ _ | refine kd_ ?_ | refine ka_ ?_ _)); exact BK160.out) Try.underlying35 rfl (by kernel_rfl)) rfl ?_
 exact ⟨_, _, ew_, by (with_reducible repeat (first | apply Kd.R_alloc | apply Kd.R_drewN | apply Kd.R_drew)); exact Kd.R_mono (Kd.R_far (p := ⟨gb160, 7, none⟩) (Kd.R_far (p := ⟨gb160, 6, none⟩) (Kd.R_far (p := ⟨gb160, 5, none⟩) (Kd.R_far (p := ⟨gb160, 4, none⟩) (Kd.R_far (p := ⟨gb160, 3, none⟩) (Kd.R_far (p := ⟨gb160, 2, none⟩) (Kd.R_far (p := ⟨gb160, 1, none⟩) (Kd.R_far (p := ⟨gb160, 0, none⟩) (Kd.R_far (p := ⟨gb178, 7, none⟩) (Kd.R_types (Kd.R_types HO163.out BK178.out (by decide)) BK160.out (by decide)) (fun _ hk => hk.1.2) (.int .i64 (wrap64 (t175 + t182)))) (fun _ hk => hk.2) (.slice Ao11 t161.length co11)) (fun _ hk => hk.2) (.int .i64 t164)) (fun _ hk => hk.2) (.int .i64 t165)) (fun _ hk => hk.2) (.slice Ao10 t168.length co10)) (fun _ hk => hk.2) (.int .i64 t171)) (fun _ hk => hk.2) (.int .i64 t172)) (fun _ hk => hk.2) (.int .i64 t175)) (fun _ hk => hk.2) (.int .i64 (wrap64 (t175 + t182)))) (fun _ hk => hk.1.1), by (with_reducible repeat (first | apply Kd.R_alloc | apply Kd.R_drewN | apply Kd.R_drew)); exact Kd.R_mono (Kd.R_far (p := ⟨gb160, 7, none⟩) (Kd.R_far (p := ⟨gb160, 6, none⟩) (Kd.R_far (p := ⟨gb160, 5, none⟩) (Kd.R_far (p := ⟨gb160, 4, none⟩) (Kd.R_far (p := ⟨gb160, 3, none⟩) (Kd.R_far (p := ⟨gb160, 2, none⟩) (Kd.R_far (p := ⟨gb160, 1, none⟩) (Kd.R_far (p := ⟨gb160, 0, none⟩) (Kd.R_far (p := ⟨gb178, 7, none⟩) (Kd.R_types (Kd.R_types HO170.out BK178.out (by decide)) BK160.out (by decide)) (fun _ hk => hk.1.2) (.int .i64 (wrap64 (t175 + t182)))) (fun _ hk => hk.2) (.slice Ao11 t161.length co11)) (fun _ hk => hk.2) (.int .i64 t164)) (fun _ hk => hk.2) (.int .i64 t165)) (fun _ hk => hk.2) (.slice Ao10 t168.length co10)) (fun _ hk => hk.2) (.int .i64 t171)) (fun _ hk => hk.2) (.int .i64 t172)) (fun _ hk => hk.2) (.int .i64 t175)) (fun _ hk => hk.2) (.int .i64 (wrap64 (t175 + t182)))) (fun _ hk => hk.1.1), si_, (hbi_ HB), (hk_ HK)⟩

/-! ### spec_l01Once: function 95 -/
def spec_l01Once.f (s0_0 : List Int) (s0_1 : Int) (s0_2 : Int) (a1 : Int) : Option (Bool × Int × Int) := (spec_l01Below.f s0_0 s0_1 s0_2 a1).bind fun bt185 => (some ((bt185.1 == 0), bt185.2.1, bt185.2.2))
set_option maxHeartbeats 8000000 in
set_option maxRecDepth 100000 in
theorem spec_l01Once.calls (g : Nat) (s0_0 : List Int) (s0_1 : Int) (s0_2 : Int) (a1 : Int) (r1 : Bool) (r2 : Int) (r3 : Int) (w0 w : World) (hI : IsS120 w0 w g s0_0 s0_1 s0_2) (hB : Below w0.heap.size w0 w) (h : spec_l01Once.f s0_0 s0_1 s0_2 a1 = some (r1, r2, r3)) :
  Calls Try.prog 95 #[.pointer (some ⟨g, 0, none⟩), .int .i64 a1] w fun e w' => e = .returned (.bool r1) ∧ IsS120 w0 w' g s0_0 r2 r3 ∧ Below w0.heap.size w0 w' ∧ KeepBut w w' g none := by
 have HI0 := ak_ hI
 have HK := ak_ (KeepBut.refl w g none)
 have HL := ak_ hB.size
 clear hI
 have HW0 := ak_ hB.size
 have HB := ak_ hB
 clear hB
 have H : ((spec_l01Below.f s0_0 s0_1 s0_2 a1).bind fun bt185 => (some ((bt185.1 == 0), bt185.2.1, bt185.2.2))) = some (r1, r2, r3) := h
 clear h
 replace H := Option.bind_eq_some_iff.mp H
 obtain ⟨⟨t185, t186, t187⟩, A30, H⟩ := H
 replace H : (some ((t185 == 0), t186, t187)) = some (r1, r2, r3) := H
 have A3 := ak_ A30
 clear A30
 simp only [Option.some.injEq, Prod.mk.injEq] at H
 obtain ⟨rfl, rfl, rfl⟩ := H
 go_enter Try.func95, Try.ntmps95
 go_wp2_with (first | ((with_reducible refine gate_callee (f := 96) rfl ?_); refine goesL_ (some 7) rfl rfl Try.func96 (by kernel_rfl) rfl #[.pointer (some ⟨g, 0, none⟩), .int .i64 a1] rfl (ma2_ rfl rfl) ?_; (with_reducible refine (spec_l01Below.calls g s0_0 s0_1 s0_2 a1 t185 t186 t187 w0 _ ?side1 ?side2 A3.out).mono ?_); (case side1 => exact si_); (case side2 => exact (hbi_ HB)); rintro e w4 ⟨rfl, hi, hb, hk⟩; refine ⟨_, rfl, ?_⟩; replace HK := ak_ (KeepBut.trans (hk_ HK) hk (.inl rfl)); replace HB := ak_ hb; replace HI0 := ak_ hi; (try clear hb); (try clear hk); (try clear hi)))
 go_ret
 exact ⟨ew_, si_, (hbi_ HB), (hk_ HK)⟩

end Go.Proofs.Ytfjjlipfjddaiaa.Bo
