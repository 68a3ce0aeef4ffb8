-- PRINTED by print.py (a twelfth state) out of the translation. Not trusted: Lean checks it.
import Derived.Test.YtfjjlipfjddaiaaBo0
import Derived.Test.YtfjjlipfjddaiaaBo1
import Derived.Test.YtfjjlipfjddaiaaBo2
import Derived.Test.YtfjjlipfjddaiaaBo4
namespace Go.Proofs.Ytfjjlipfjddaiaa.Bo
open Go.RowKit Go.Proofs.YtfjjlipfjddaiaaW.PrintWords Go.Proofs.YtfjjlipfjddaiaaW.PrintLast Go.Proofs.YtfjjlipfjddaiaaW.PrintMore
attribute [local go_sem] max2_int min2_int max_two min_two max_three min_three max_four min_four   -- for this text's walks alone
set_option linter.unusedVariables false
set_option linter.unusedSimpArgs false

/-! ### spec_l06DrawMoves: function 62 -/
mutual
def spec_l06DrawMoves.l0 : Nat → List (S103) → Int → Int → List Int → Int → Int → Option ((List (S103)) × Int × Int)
  | 0, _, _, _, _, _, _ => none
  | k + 1, x3, x4, x5, x1000, x1001, x1002 => if x5 > 0 then ((spec_l01Below.f x1000 x1001 x1002 10).bind fun bt286 => ((spec_l01Below.f x1000 bt286.2.1 bt286.2.2 9).bind fun bt289 => (if x3.length < 8796093022208 then (spec_l06DrawMoves.l0 k (x3 ++ [(⟨wrap64 (x4 + bt286.1), wrap64 (bt289.1 - 4)⟩ : S103)]) (wrap64 (x4 + bt286.1)) (wrap64 (x5 - 1)) x1000 bt289.2.1 bt289.2.2) else (none)))) else ((spec_l01Once.f x1000 x1001 x1002 15).bind fun bt295 => (if bt295.1 = true then (spec_l06DrawMoves.j1 k x3 (decide ((x3.length : Int) > 0)) x1000 bt295.2.1 bt295.2.2) else (spec_l06DrawMoves.j1 k x3 false x1000 bt295.2.1 bt295.2.2)))
def spec_l06DrawMoves.j1 : Nat → List (S103) → Bool → List Int → Int → Int → Option ((List (S103)) × Int × Int)
  | 0, _, _, _, _, _ => none
  | k + 1, x3, x31, x1000, x1001, x1002 => if x31 = true then ((spec_l01Below.f x1000 x1001 x1002 (x3.length : Int)).bind fun bt298 => ((spec_l01PickInt.f x1000 bt298.2.1 bt298.2.2 (([(-1), 999, 0] : List Int))).bind fun bt304 => ((spec_l01PickInt.f x1000 bt304.2.1 bt304.2.2 (([1000, 1001, (-1001)] : List Int))).bind fun bt310 => (if 0 ≤ bt298.1 then (if bt298.1 < (x3.length : Int) then (some ((x3.set (bt298.1 : Int).toNat (⟨bt304.1, bt310.1⟩ : S103)), bt310.2.1, bt310.2.2)) else (none)) else (none))))) else (some (x3, x1001, x1002))
end
def spec_l06DrawMoves.f (k : Nat) (s0_0 : List Int) (s0_1 : Int) (s0_2 : Int) : Option ((List (S103)) × Int × Int) := (spec_l01Below.f s0_0 s0_1 s0_2 8).bind fun bt283 => (spec_l06DrawMoves.l0 k (([] : List (S103))) 0 bt283.1 s0_0 bt283.2.1 bt283.2.2)
theorem spec_l06DrawMoves.mono_l : ∀ k, (∀ y0 y1 y2 y3 y4 y5, LeO (spec_l06DrawMoves.l0 k y0 y1 y2 y3 y4 y5) (spec_l06DrawMoves.l0 (k + 1) y0 y1 y2 y3 y4 y5)) ∧ (∀ y0 y1 y2 y3 y4, LeO (spec_l06DrawMoves.j1 k y0 y1 y2 y3 y4) (spec_l06DrawMoves.j1 (k + 1) y0 y1 y2 y3 y4))
  | 0 => ⟨fun _ _ _ _ _ _ r h => by simp [spec_l06DrawMoves.l0] at h, fun _ _ _ _ _ r h => by simp [spec_l06DrawMoves.j1] at h⟩
  | k + 1 => by
    obtain ⟨ih0, ih1⟩ := spec_l06DrawMoves.mono_l k
    refine ⟨?_, ?_⟩
    · intro y0 y1 y2 y3 y4 y5
      unfold spec_l06DrawMoves.l0
      repeat' with_reducible first | exact ih0 _ _ _ _ _ _ | exact ih1 _ _ _ _ _ | exact LeO.refl _ | exact LeO.none _ | refine LeO.ite ?_ ?_ | refine LeO.bind ?_ (fun _ => ?_)
    · intro y0 y1 y2 y3 y4
      unfold spec_l06DrawMoves.j1
      repeat' with_reducible first | exact ih0 _ _ _ _ _ _ | exact ih1 _ _ _ _ _ | exact LeO.refl _ | exact LeO.none _ | refine LeO.ite ?_ ?_ | refine LeO.bind ?_ (fun _ => ?_)
theorem spec_l06DrawMoves.mono : ∀ a0 a1 a2 k, LeO (spec_l06DrawMoves.f k a0 a1 a2) (spec_l06DrawMoves.f (k + 1) a0 a1 a2) := by
  intro a0 a1 a2 k
  obtain ⟨ih0, ih1⟩ := spec_l06DrawMoves.mono_l k
  unfold spec_l06DrawMoves.f
  repeat' with_reducible first | exact ih0 _ _ _ _ _ _ | exact ih1 _ _ _ _ _ | exact LeO.refl _ | exact LeO.none _ | refine LeO.ite ?_ ?_ | refine LeO.bind ?_ (fun _ => ?_)
theorem spec_l06DrawMoves.is_ {w0 W0 W : World} {g : Nat} {f0 : List Int} {f1 : Int} {f2 : Int} (_ : IsS120 w0 W0 g f0 f1 f2) (h : IsS120 w0 W g f0 f1 f2) : IsS120 w0 W g f0 f1 f2 := h
set_option maxHeartbeats 8000000 in
set_option maxRecDepth 100000 in
theorem spec_l06DrawMoves.calls (k : Nat) (g : Nat) (s0_0 : List Int) (s0_1 : Int) (s0_2 : Int) (r1 : List (S103)) (r2 : Int) (r3 : Int) (w0 w : World) (hI : IsS120 w0 w g s0_0 s0_1 s0_2) (hB : Below w0.heap.size w0 w) (h : spec_l06DrawMoves.f k s0_0 s0_1 s0_2 = some (r1, r2, r3)) :
  Calls Try.prog 62 #[.pointer (some ⟨g, 0, none⟩)] w fun e w' => ∃ v0_ : Value, e = .returned (v0_) ∧ Kd.R k103 103 w' w.heap.size (fun _ => True) v0_ r1 ∧ IsS120 w0 w' g s0_0 r2 r3 ∧ Below w0.heap.size w0 w' ∧ KeepBut w w' g none := by
 have hu103 := Try.underlying103
 have HI0 := ak_ hI
 have HK := ak_ (KeepBut.refl w g none)
 have HL := ak_ hB.size
 clear hI
 have HW0 := ak_ hB.size
 have HB := ak_ hB
 clear hB
 have H : ((spec_l01Below.f s0_0 s0_1 s0_2 8).bind fun bt283 => (spec_l06DrawMoves.l0 k (([] : List (S103))) 0 bt283.1 s0_0 bt283.2.1 bt283.2.2)) = some (r1, r2, r3) := h
 clear h
 obtain ⟨y280, hy280⟩ : ∃ y_ : List (S103), y_ = (([] : List (S103))) := ⟨_, rfl⟩
 replace H : ((spec_l01Below.f s0_0 s0_1 s0_2 8).bind fun bt283 => (spec_l06DrawMoves.l0 k y280 0 bt283.1 s0_0 bt283.2.1 bt283.2.2)) = some (r1, r2, r3) := by first | (rw [hy280]; with_reducible exact H) | (have H2_ := (Option.bind_some _ _).symm.trans H; rw [hy280]; with_reducible exact H2_) | (have H2_ := (Option.bind_some _ _).symm.trans H; with_reducible exact H2_) | with_reducible exact H | (rw [hy280]; exact H) | exact H
 have Ny280 := ak_ hy280
 clear hy280
 replace H := Option.bind_eq_some_iff.mp H
 obtain ⟨⟨t283, t284, t285⟩, A20, H⟩ := H
 replace H : (spec_l06DrawMoves.l0 k y280 0 t283 s0_0 t284 t285) = some (r1, r2, r3) := H
 have A2 := ak_ A20
 clear A20
 have H' := ak_ H
 clear H
 go_enter Try.func62, Try.ntmps62
 go_wp2_with (first | ((with_reducible refine gate_dst (N := 6) rfl ?_); refine Kd.R_lit k103 _ 103 ?hg (N := 6) ?hd (xs := ([] : List (S103))) (inner := []) (ok := fun _ => True) (okp := fun _ => True) ?hr ?hp (fun _ hk => hk) trivial (Below.refl _ _) (Nat.le_refl _) (by simp) ?_; (case hd => rfl); (case hg => rfl); (case hr => first | (go_simp; done) | (go_simp; rfl)); (case hp => exact (Reps.none _ _)); intro v281 w3 ho4 hb hg_ hnew_; clear hg_ hnew_; (first | rw [← Ny280.out] at ho4 | (simp only [Int.reduceToNat] at ho4; rw [← Ny280.out] at ho4)); have HO282 := ak_ (Kd.R_lower ho4 (keep_size (w := w) (g := g) (row := none) (hk_ HK))); replace HK := ak_ (KeepBut.trans (hk_ HK) (KeepBut.of_below hb g none) (.inl rfl)); replace HB := ak_ (below_step (hbi_ HB) hb); replace HI0 := ak_ (IsS120.below si_ hb); clear hb ho4) | ((with_reducible refine gate_callee (f := 96) rfl ?_); refine goesL_ (some 8) rfl rfl Try.func96 (by kernel_rfl) rfl #[.pointer (some ⟨g, 0, none⟩), .int .i64 8] rfl (ma2_ rfl rfl) ?_; (with_reducible refine (spec_l01Below.calls g s0_0 s0_1 s0_2 8 t283 t284 t285 w0 _ ?side1 ?side2 A2.out).mono ?_); (case side1 => exact si_); (case side2 => exact (hbi_ HB)); rintro e w5 ⟨rfl, hi, hb, hk⟩; refine ⟨_, rfl, ?_⟩; replace HO282 := ak_ (Kd.R_mono (Kd.R_keep (IsS120.apart (show IsS120 w0 _ g s0_0 s0_1 s0_2 from si_) (ro_ HO282) (by decide)) hk (fun _ h => h.2)) (fun _ h => h.1)); replace HK := ak_ (KeepBut.trans (hk_ HK) hk (.inl rfl)); replace HB := ak_ hb; replace HI0 := ak_ hi; (try clear hb); (try clear hk); (try clear hi)))
 go_loopg [3, 4, 5] k (fun kq v3 v4 v5 w' => ∃ (x3_1 : List (S103)) (x4_1 : Int) (x5_1 : Int) (x1001_1 : Int) (x1002_1 : Int), v4 = .int .i64 x4_1 ∧ v5 = .int .i64 x5_1 ∧ Aside0 (spec_l06DrawMoves.l0 kq x3_1 x4_1 x5_1 s0_0 x1001_1 x1002_1 = some (r1, r2, r3)) ∧ Aside0 (kq ≤ k) ∧ Aside0 (Kd.R k103 103 w' w.heap.size (fun _ => True) v3 x3_1) ∧ Aside0 (IsS120 w0 w' g s0_0 x1001_1 x1002_1) ∧ Aside0 (KeepBut w w' g none) ∧ Aside0 (Below w0.heap.size w0 w'))
 case atStart => exact ⟨(y280), (0), (t283), (t284), (t285), (by first | rfl | (simp; done) | (simp [*]; done)), (by first | rfl | (simp; done) | (simp [*]; done)), H', ⟨Nat.le_refl _⟩, ⟨by (with_reducible repeat (first | apply Kd.R_alloc | apply Kd.R_drewN | apply Kd.R_drew)); exact HO282.out⟩, ⟨si_⟩, ⟨(hk_ HK)⟩, ⟨(hbi_ HB)⟩⟩
 case round =>
  clear H'
  try clear p2
  obtain ⟨x3_1, x4_1, x5_1, x1001_1, x1002_1, rfl, rfl, HA, HK1, HO_3, HI0, HK, HB⟩ := hrel
  cases gk with
  | zero => exact absurd HA.out (by simp [spec_l06DrawMoves.l0])
  | succ k1 =>
   have H := HA.out
   clear HA
   simp only [spec_l06DrawMoves.l0] at H
   by_cases c6 : x5_1 > 0
   ·rw [if_pos c6] at H
    have c6b0 : decide (0 < x5_1) = true := decide_eq_true c6
    clear c6
    replace H := Option.bind_eq_some_iff.mp H
    obtain ⟨⟨t286, t287, t288⟩, A70, H⟩ := H
    replace H : ((spec_l01Below.f s0_0 t287 t288 9).bind fun bt289 => (if x3_1.length < 8796093022208 then (spec_l06DrawMoves.l0 k1 (x3_1 ++ [(⟨wrap64 (x4_1 + t286), wrap64 (bt289.1 - 4)⟩ : S103)]) (wrap64 (x4_1 + t286)) (wrap64 (x5_1 - 1)) s0_0 bt289.2.1 bt289.2.2) else (none))) = some (r1, r2, r3) := H
    have A7 := ak_ A70
    clear A70
    replace H := Option.bind_eq_some_iff.mp H
    obtain ⟨⟨t289, t290, t291⟩, A80, H⟩ := H
    replace H : (if x3_1.length < 8796093022208 then (spec_l06DrawMoves.l0 k1 (x3_1 ++ [(⟨wrap64 (x4_1 + t286), wrap64 (t289 - 4)⟩ : S103)]) (wrap64 (x4_1 + t286)) (wrap64 (x5_1 - 1)) s0_0 t290 t291) else (none)) = some (r1, r2, r3) := H
    have A8 := ak_ A80
    clear A80
    by_cases c9 : x3_1.length < 8796093022208
    ·rw [if_pos c9] at H
     have LMc9 := ak_ c9
     clear c9
     obtain ⟨y292, hy292⟩ : ∃ y_ : List (S103), y_ = (x3_1 ++ [(⟨wrap64 (x4_1 + t286), wrap64 (t289 - 4)⟩ : S103)]) := ⟨_, rfl⟩
     replace H : (spec_l06DrawMoves.l0 k1 y292 (wrap64 (x4_1 + t286)) (wrap64 (x5_1 - 1)) s0_0 t290 t291) = some (r1, r2, r3) := by first | (rw [hy292]; with_reducible exact H) | (have H2_ := (Option.bind_some _ _).symm.trans H; rw [hy292]; with_reducible exact H2_) | (have H2_ := (Option.bind_some _ _).symm.trans H; with_reducible exact H2_) | with_reducible exact H | (rw [hy292]; exact H) | exact H
     have Ny292 := ak_ hy292
     clear hy292
     have H' := ak_ H
     clear H
     go_wp2_with (first | ((with_reducible refine gate_callee (f := 96) rfl ?_); refine goesL_ (some 15) rfl rfl Try.func96 (by kernel_rfl) rfl #[.pointer (some ⟨g, 0, none⟩), .int .i64 10] rfl (ma2_ rfl rfl) ?_; (with_reducible refine (spec_l01Below.calls g s0_0 x1001_1 x1002_1 10 t286 t287 t288 w0 _ ?side1 ?side2 A7.out).mono ?_); (case side1 => exact si_); (case side2 => exact (hbi_ HB)); rintro e w10 ⟨rfl, hi, hb, hk⟩; refine ⟨_, rfl, ?_⟩; replace HO_3 := ak_ (Kd.R_mono (Kd.R_keep (IsS120.apart (show IsS120 w0 _ g s0_0 x1001_1 x1002_1 from si_) (ro_ HO_3) (by decide)) hk (fun _ h => h.2)) (fun _ h => h.1)); replace HK := ak_ (KeepBut.trans (hk_ HK) hk (.inl rfl)); replace HB := ak_ hb; replace HI0 := ak_ hi; (try clear hb); (try clear hk); (try clear hi)) | ((with_reducible refine gate_callee (f := 96) rfl ?_); refine goesL_ (some 20) rfl rfl Try.func96 (by kernel_rfl) rfl #[.pointer (some ⟨g, 0, none⟩), .int .i64 9] rfl (ma2_ rfl rfl) ?_; (with_reducible refine (spec_l01Below.calls g s0_0 t287 t288 9 t289 t290 t291 w0 _ ?side1 ?side2 A8.out).mono ?_); (case side1 => exact si_); (case side2 => exact (hbi_ HB)); rintro e w11 ⟨rfl, hi, hb, hk⟩; refine ⟨_, rfl, ?_⟩; replace HO_3 := ak_ (Kd.R_mono (Kd.R_keep (IsS120.apart (show IsS120 w0 _ g s0_0 t287 t288 from si_) (ro_ HO_3) (by decide)) hk (fun _ h => h.2)) (fun _ h => h.1)); replace HK := ak_ (KeepBut.trans (hk_ HK) hk (.inl rfl)); replace HB := ak_ hb; replace HI0 := ak_ hi; (try clear hb); (try clear hk); (try clear hi)) | ((with_reducible refine gate_builtin (b := .append) (xs := #[.tmp 17, .tmp 23]) rfl ?_); at_builtin; refine Kd.R_append k103 w.heap.size rfl (.tmp 17) (.tmp 23) 37 103 (.agg #[(.int .i64 0), (.int .i64 0)]) 16 rfl Try.underlying37 info103 rfl (by decide) (by omega) u3 x3_1 (⟨wrap64 (x4_1 + t286), wrap64 (t289 - 4)⟩ : S103) [.int .i64 (wrap64 (x4_1 + t286)), .int .i64 (wrap64 (t289 - 4))] (fun _ => True) (fun _ => False) rfl rfl ?aP (fun _ hk => hk.elim) ?aF ?aO (Below.refl _ _) ?aS ?aL ?_; (case aP => exact k103_mkM _ _ _ (⟨wrap64 (x4_1 + t286), wrap64 (t289 - 4)⟩ : S103)); (case aF => exact (fun _ _ => trivial)); (case aO => exact (ro_ HO_3)); (case aS => exact (keep_size (w := w) (g := g) (row := none) (hk_ HK))); (case aL => have := LMc9.out; omega); intro v293 w12 ho hb hg hat; rw [← Ny292.out] at ho; replace HB := ak_ (below_weaken (hbi_ HB) HL.out hb); replace HI0 := ak_ (IsS120.grown (spec_l06DrawMoves.is_ HI0.out si_) hg (IsS120.own_ne HI0.out HO_3.out (by decide))); replace HK := ak_ (KeepBut.trans (hk_ HK) (KeepBut.of_grown hg g) (Kd.R_base2 HO_3.out)); have HO294 := ak_ ho; clear HO_3; clear ho hb hg hat))
     go_roundg k1
     case measure => have := HK1.out; omega
     case rel => exact ⟨(y292), (wrap64 (x4_1 + t286)), (wrap64 (x5_1 - 1)), (t290), (t291), (by first | rfl | (simp; done) | (simp [*]; done)), (by first | rfl | (simp; done) | (simp [*]; done)), H', ⟨by have := HK1.out; omega⟩, ⟨by (with_reducible repeat (first | apply Kd.R_alloc | apply Kd.R_drewN | apply Kd.R_drew)); exact HO294.out⟩, ⟨si_⟩, ⟨(hk_ HK)⟩, ⟨(hbi_ HB)⟩⟩
    ·rw [if_neg c9] at H
     exact absurd H (by simp)
   ·rw [if_neg c6] at H
    have c6b0 : decide (0 < x5_1) = false := decide_eq_false c6
    clear c6
    have HC13 := ak_ H
    clear H
    go_upto_region 8 with (fail)
    go_cut [31] (fun v31 wc => ∃ (kq : Nat) (x31_12 : Bool) (x1001_12 : Int) (x1002_12 : Int), v31 = .bool x31_12 ∧ Aside0 (spec_l06DrawMoves.j1 kq x3_1 x31_12 s0_0 x1001_12 x1002_12 = some (r1, r2, r3)) ∧ Aside0 (kq ≤ k1) ∧ Aside0 (Kd.R k103 103 wc w.heap.size (fun _ => True) u3 x3_1) ∧ Aside0 (IsS120 w0 wc g s0_0 x1001_12 x1002_12) ∧ Aside0 (KeepBut w wc g none) ∧ Aside0 (Below w0.heap.size w0 wc))
    case first =>
     have H := HC13.out
     clear HC13
     replace H := Option.bind_eq_some_iff.mp H
     obtain ⟨⟨t295, t296, t297⟩, A140, H⟩ := H
     replace H : (if t295 = true then (spec_l06DrawMoves.j1 k1 x3_1 (decide ((x3_1.length : Int) > 0)) s0_0 t296 t297) else (spec_l06DrawMoves.j1 k1 x3_1 false s0_0 t296 t297)) = some (r1, r2, r3) := H
     have A14 := ak_ A140
     clear A140
     by_cases c15 : t295 = true
     ·subst c15
      rw [if_pos rfl] at H
      have H' := ak_ H
      clear H
      go_wp2_with (first | ((with_reducible refine gate_callee (f := 95) rfl ?_); refine goesL_ (some 26) rfl rfl Try.func95 (by kernel_rfl) rfl #[.pointer (some ⟨g, 0, none⟩), .int .i64 15] rfl (ma2_ rfl rfl) ?_; (with_reducible refine (spec_l01Once.calls g s0_0 x1001_1 x1002_1 15 true t296 t297 w0 _ ?side1 ?side2 A14.out).mono ?_); (case side1 => exact si_); (case side2 => exact (hbi_ HB)); rintro e w16 ⟨rfl, hi, hb, hk⟩; refine ⟨_, rfl, ?_⟩; replace HO_3 := ak_ (Kd.R_mono (Kd.R_keep (IsS120.apart (show IsS120 w0 _ g s0_0 x1001_1 x1002_1 from si_) (ro_ HO_3) (by decide)) hk (fun _ h => h.2)) (fun _ h => h.1)); replace HK := ak_ (KeepBut.trans (hk_ HK) hk (.inl rfl)); replace HB := ak_ hb; replace HI0 := ak_ hi; (try clear hb); (try clear hk); (try clear hi); obtain ⟨Ao17, co17, eo17⟩ := Kd.R_slice HO_3.out; subst eo17))
      go_meet
      case rel => exact ⟨_, (decide ((x3_1.length : Int) > 0)), (t296), (t297), (by first | rfl | (simp; done) | (simp [*]; done)), H', ⟨by have := HK1.out; first | omega | exact Nat.le_refl _⟩, ⟨by (with_reducible repeat (first | apply Kd.R_alloc | apply Kd.R_drewN | apply Kd.R_drew)); exact HO_3.out⟩, ⟨si_⟩, ⟨(hk_ HK)⟩, ⟨(hbi_ HB)⟩⟩
     ·replace c15 := Bool.eq_false_iff.mpr c15
      subst c15
      rw [if_neg (show ¬ (false = true) by decide)] at H
      have H' := ak_ H
      clear H
      go_wp2_with (first | ((with_reducible refine gate_callee (f := 95) rfl ?_); refine goesL_ (some 26) rfl rfl Try.func95 (by kernel_rfl) rfl #[.pointer (some ⟨g, 0, none⟩), .int .i64 15] rfl (ma2_ rfl rfl) ?_; (with_reducible refine (spec_l01Once.calls g s0_0 x1001_1 x1002_1 15 false t296 t297 w0 _ ?side1 ?side2 A14.out).mono ?_); (case side1 => exact si_); (case side2 => exact (hbi_ HB)); rintro e w18 ⟨rfl, hi, hb, hk⟩; refine ⟨_, rfl, ?_⟩; replace HO_3 := ak_ (Kd.R_mono (Kd.R_keep (IsS120.apart (show IsS120 w0 _ g s0_0 x1001_1 x1002_1 from si_) (ro_ HO_3) (by decide)) hk (fun _ h => h.2)) (fun _ h => h.1)); replace HK := ak_ (KeepBut.trans (hk_ HK) hk (.inl rfl)); replace HB := ak_ hb; replace HI0 := ak_ hi; (try clear hb); (try clear hk); (try clear hi)))
      go_meet
      case rel => exact ⟨_, (false), (t296), (t297), (by first | rfl | (simp; done) | (simp [*]; done)), H', ⟨by have := HK1.out; first | omega | exact Nat.le_refl _⟩, ⟨by (with_reducible repeat (first | apply Kd.R_alloc | apply Kd.R_drewN | apply Kd.R_drew)); exact HO_3.out⟩, ⟨si_⟩, ⟨(hk_ HK)⟩, ⟨(hbi_ HB)⟩⟩
    case rest =>
     clear HC13
     try clear c1
     try clear p2
     try clear c6
     try clear c6b0
     try clear p6
     try clear c9
     try clear c15
     try clear p2
     obtain ⟨kq, x31_12, x1001_12, x1002_12, rfl, HA, HJ12, HO_3, HI0, HK, HB⟩ := hcut
     cases kq with
     | zero => exact absurd HA.out (by simp [spec_l06DrawMoves.j1])
     | succ kj12 =>
      have H := HA.out
      clear HA
      simp only [spec_l06DrawMoves.j1] at H
      by_cases c19 : x31_12 = true
      ·subst c19
       rw [if_pos rfl] at H
       replace H := Option.bind_eq_some_iff.mp H
       obtain ⟨⟨t298, t299, t300⟩, A200, H⟩ := H
       replace H : ((spec_l01PickInt.f s0_0 t299 t300 (([(-1), 999, 0] : List Int))).bind fun bt304 => ((spec_l01PickInt.f s0_0 bt304.2.1 bt304.2.2 (([1000, 1001, (-1001)] : List Int))).bind fun bt310 => (if 0 ≤ t298 then (if t298 < (x3_1.length : Int) then (some ((x3_1.set (t298 : Int).toNat (⟨bt304.1, bt310.1⟩ : S103)), bt310.2.1, bt310.2.2)) else (none)) else (none)))) = some (r1, r2, r3) := H
       have A20 := ak_ A200
       clear A200
       obtain ⟨y301, hy301⟩ : ∃ y_ : List Int, y_ = (([(-1), 999, 0] : List Int)) := ⟨_, rfl⟩
       replace H : ((spec_l01PickInt.f s0_0 t299 t300 y301).bind fun bt304 => ((spec_l01PickInt.f s0_0 bt304.2.1 bt304.2.2 (([1000, 1001, (-1001)] : List Int))).bind fun bt310 => (if 0 ≤ t298 then (if t298 < (x3_1.length : Int) then (some ((x3_1.set (t298 : Int).toNat (⟨bt304.1, bt310.1⟩ : S103)), bt310.2.1, bt310.2.2)) else (none)) else (none)))) = some (r1, r2, r3) := by first | (rw [hy301]; with_reducible exact H) | (have H2_ := (Option.bind_some _ _).symm.trans H; rw [hy301]; with_reducible exact H2_) | (have H2_ := (Option.bind_some _ _).symm.trans H; with_reducible exact H2_) | with_reducible exact H | (rw [hy301]; exact H) | exact H
       have Ny301 := ak_ hy301
       clear hy301
       replace H := Option.bind_eq_some_iff.mp H
       obtain ⟨⟨t304, t305, t306⟩, A210, H⟩ := H
       replace H : ((spec_l01PickInt.f s0_0 t305 t306 (([1000, 1001, (-1001)] : List Int))).bind fun bt310 => (if 0 ≤ t298 then (if t298 < (x3_1.length : Int) then (some ((x3_1.set (t298 : Int).toNat (⟨t304, bt310.1⟩ : S103)), bt310.2.1, bt310.2.2)) else (none)) else (none))) = some (r1, r2, r3) := H
       have A21 := ak_ A210
       clear A210
       obtain ⟨y307, hy307⟩ : ∃ y_ : List Int, y_ = (([1000, 1001, (-1001)] : List Int)) := ⟨_, rfl⟩
       replace H : ((spec_l01PickInt.f s0_0 t305 t306 y307).bind fun bt310 => (if 0 ≤ t298 then (if t298 < (x3_1.length : Int) then (some ((x3_1.set (t298 : Int).toNat (⟨t304, bt310.1⟩ : S103)), bt310.2.1, bt310.2.2)) else (none)) else (none))) = some (r1, r2, r3) := by first | (rw [hy307]; with_reducible exact H) | (have H2_ := (Option.bind_some _ _).symm.trans H; rw [hy307]; with_reducible exact H2_) | (have H2_ := (Option.bind_some _ _).symm.trans H; with_reducible exact H2_) | with_reducible exact H | (rw [hy307]; exact H) | exact H
       have Ny307 := ak_ hy307
       clear hy307
       replace H := Option.bind_eq_some_iff.mp H
       obtain ⟨⟨t310, t311, t312⟩, A220, H⟩ := H
       replace H : (if 0 ≤ t298 then (if t298 < (x3_1.length : Int) then (some ((x3_1.set (t298 : Int).toNat (⟨t304, t310⟩ : S103)), t311, t312)) else (none)) else (none)) = some (r1, r2, r3) := H
       have A22 := ak_ A220
       clear A220
       by_cases c23 : 0 ≤ t298
       ·rw [if_pos c23] at H
        have c23b0 : decide (0 ≤ t298) = true := decide_eq_true c23
        clear c23
        by_cases c24 : t298 < (x3_1.length : Int)
        ·rw [if_pos c24] at H
         have c24b0 : decide (t298 < (x3_1.length : Int)) = true := decide_eq_true c24
         clear c24
         obtain ⟨y313, hy313⟩ : ∃ y_ : List (S103), y_ = (x3_1.set (t298 : Int).toNat (⟨t304, t310⟩ : S103)) := ⟨_, rfl⟩
         replace H : (some (y313, t311, t312)) = some (r1, r2, r3) := by first | (rw [hy313]; with_reducible exact H) | (have H2_ := (Option.bind_some _ _).symm.trans H; rw [hy313]; with_reducible exact H2_) | (have H2_ := (Option.bind_some _ _).symm.trans H; with_reducible exact H2_) | with_reducible exact H | (rw [hy313]; exact H) | exact H
         have Ny313 := ak_ hy313
         clear hy313
         simp only [Option.some.injEq, Prod.mk.injEq] at H
         obtain ⟨rfl, rfl, rfl⟩ := H
         obtain ⟨Ao26, co26, eo26⟩ := Kd.R_slice HO_3.out
         subst eo26
         go_wp2_with (first | ((with_reducible refine gate_callee (f := 96) rfl ?_); refine goesL_ (some 36) rfl rfl Try.func96 (by kernel_rfl) rfl #[.pointer (some ⟨g, 0, none⟩), .int .i64 (x3_1.length : Int)] rfl (ma2_ rfl rfl) ?_; (with_reducible refine (spec_l01Below.calls g s0_0 x1001_12 x1002_12 (x3_1.length : Int) t298 t299 t300 w0 _ ?side1 ?side2 A20.out).mono ?_); (case side1 => exact si_); (case side2 => exact (hbi_ HB)); rintro e w27 ⟨rfl, hi, hb, hk⟩; refine ⟨_, rfl, ?_⟩; replace HO_3 := ak_ (Kd.R_mono (Kd.R_keep (IsS120.apart (show IsS120 w0 _ g s0_0 x1001_12 x1002_12 from si_) (ro_ HO_3) (by decide)) hk (fun _ h => h.2)) (fun _ h => h.1)); replace HK := ak_ (KeepBut.trans (hk_ HK) hk (.inl rfl)); replace HB := ak_ hb; replace HI0 := ak_ hi; (try clear hb); (try clear hk); (try clear hi)) | ((with_reducible refine gate_dst (N := 38) rfl ?_); refine Kd.R_lit (Kd.int .i64) _ 3 ?hg (N := 38) ?hd (xs := ([(-1), 999, 0] : List Int)) (inner := [.int .i64 (-1), .int .i64 999, .int .i64 0]) (ok := fun _ => True) (okp := fun _ => True) ?hr ?hp (fun _ hk => hk) trivial (Below.refl _ _) (Nat.le_refl _) (by simp) ?_; (case hd => rfl); (case hg => rfl); (case hr => first | (go_simp; done) | (go_simp; rfl)); (case hp => exact (Reps.one (show Kd.M (Kd.int .i64) _ _ _ (-1) [.int .i64 (-1)] from rfl) (Reps.one (show Kd.M (Kd.int .i64) _ _ _ 999 [.int .i64 999] from rfl) (Reps.one (show Kd.M (Kd.int .i64) _ _ _ 0 [.int .i64 0] from rfl) (Reps.none _ _))))); intro v302 w28 ho29 hb hg_ hnew_; clear hg_ hnew_; (first | rw [← Ny301.out] at ho29 | (simp only [Int.reduceToNat] at ho29; rw [← Ny301.out] at ho29)); replace HO_3 := ak_ (Kd.R_below (ro_ HO_3) hb); have HO303 := ak_ (Kd.R_lower ho29 (keep_size (w := w) (g := g) (row := none) (hk_ HK))); replace HK := ak_ (KeepBut.trans (hk_ HK) (KeepBut.of_below hb g none) (.inl rfl)); replace HB := ak_ (below_step (hbi_ HB) hb); replace HI0 := ak_ (IsS120.below si_ hb); clear hb ho29; obtain ⟨Ao30, co30, eo30⟩ := Kd.R_slice HO303.out; subst eo30) | ((with_reducible refine gate_callee (f := 97) rfl ?_); refine goesL_ (some 39) rfl rfl Try.func97 (by kernel_rfl) rfl #[.pointer (some ⟨g, 0, none⟩), .slice Ao30 y301.length co30] rfl (ma2_ rfl rfl) ?_; (with_reducible refine (spec_l01PickInt.calls g s0_0 t299 t300 _ _ y301 t304 t305 t306 w0 _ ?side1 ?side2 ?side3 ?side4 ?side5 A21.out).mono ?_); (case side1 => exact si_); (case side2 => exact (hbi_ HB)); (case side3 => repeat (first | exact (Kd.R_reads' HO303.out).2.2 | (with_reducible refine Kd.C_alloc ?_ _) | (with_reducible refine Kd.C_drewN ?_ _) | (with_reducible refine Kd.C_drew ?_))); (case side4 => exact (Kd.R_reads' HO303.out).2.1); (case side5 => exact far_slice (IsS120.own_ne HI0.out HO303.out (by decide))); rintro e w31 ⟨rfl, hi, hb, hk⟩; refine ⟨_, rfl, ?_⟩; replace HO_3 := ak_ (Kd.R_mono (Kd.R_keep (IsS120.apart (show IsS120 w0 _ g s0_0 t299 t300 from si_) (ro_ HO_3) (by decide)) hk (fun _ h => h.2)) (fun _ h => h.1)); replace HO303 := ak_ (Kd.R_mono (Kd.R_keep (IsS120.apart (show IsS120 w0 _ g s0_0 t299 t300 from si_) (ro_ HO303) (by decide)) hk (fun _ h => h.2)) (fun _ h => h.1)); replace HK := ak_ (KeepBut.trans (hk_ HK) hk (.inl rfl)); replace HB := ak_ hb; replace HI0 := ak_ hi; (try clear hb); (try clear hk); (try clear hi)) | ((with_reducible refine gate_dst (N := 41) rfl ?_); refine Kd.R_lit (Kd.int .i64) _ 3 ?hg (N := 41) ?hd (xs := ([1000, 1001, (-1001)] : List Int)) (inner := [.int .i64 1000, .int .i64 1001, .int .i64 (-1001)]) (ok := fun _ => True) (okp := fun _ => True) ?hr ?hp (fun _ hk => hk) trivial (Below.refl _ _) (Nat.le_refl _) (by simp) ?_; (case hd => rfl); (case hg => rfl); (case hr => first | (go_simp; done) | (go_simp; rfl)); (case hp => exact (Reps.one (show Kd.M (Kd.int .i64) _ _ _ 1000 [.int .i64 1000] from rfl) (Reps.one (show Kd.M (Kd.int .i64) _ _ _ 1001 [.int .i64 1001] from rfl) (Reps.one (show Kd.M (Kd.int .i64) _ _ _ (-1001) [.int .i64 (-1001)] from rfl) (Reps.none _ _))))); intro v308 w32 ho33 hb hg_ hnew_; clear hg_ hnew_; (first | rw [← Ny307.out] at ho33 | (simp only [Int.reduceToNat] at ho33; rw [← Ny307.out] at ho33)); replace HO_3 := ak_ (Kd.R_below (ro_ HO_3) hb); have HO309 := ak_ (Kd.R_lower (Kd.R_new' ho33 (Kd.R_lt (ro_ HO303))) (keep_size (w := w) (g := g) (row := none) (hk_ HK))); replace HO303 := ak_ (Kd.R_elder' (ro_ HO303) (Kd.R_base ho33) hb); replace HK := ak_ (KeepBut.trans (hk_ HK) (KeepBut.of_below hb g none) (.inl rfl)); replace HB := ak_ (below_step (hbi_ HB) hb); replace HI0 := ak_ (IsS120.below si_ hb); clear hb ho33; obtain ⟨Ao34, co34, eo34⟩ := Kd.R_slice HO309.out; subst eo34) | ((with_reducible refine gate_callee (f := 97) rfl ?_); refine goesL_ (some 42) rfl rfl Try.func97 (by kernel_rfl) rfl #[.pointer (some ⟨g, 0, none⟩), .slice Ao34 y307.length co34] rfl (ma2_ rfl rfl) ?_; (with_reducible refine (spec_l01PickInt.calls g s0_0 t305 t306 _ _ y307 t310 t311 t312 w0 _ ?side1 ?side2 ?side3 ?side4 ?side5 A22.out).mono ?_); (case side1 => exact si_); (case side2 => exact (hbi_ HB)); (case side3 => repeat (first | exact (Kd.R_reads' HO309.out).2.2 | (with_reducible refine Kd.C_alloc ?_ _) | (with_reducible refine Kd.C_drewN ?_ _) | (with_reducible refine Kd.C_drew ?_))); (case side4 => exact (Kd.R_reads' HO309.out).2.1); (case side5 => exact far_slice (IsS120.own_ne HI0.out HO309.out (by decide))); rintro e w35 ⟨rfl, hi, hb, hk⟩; refine ⟨_, rfl, ?_⟩; replace HO_3 := ak_ (Kd.R_mono (Kd.R_keep (IsS120.apart (show IsS120 w0 _ g s0_0 t305 t306 from si_) (ro_ HO_3) (by decide)) hk (fun _ h => h.2)) (fun _ h => h.1)); replace HO303 := ak_ (Kd.R_mono (Kd.R_keep (IsS120.apart (show IsS120 w0 _ g s0_0 t305 t306 from si_) (ro_ HO303) (by decide)) hk (fun _ h => h.2)) (fun _ h => h.1)); replace HO309 := ak_ (Kd.R_mono (Kd.R_keep (IsS120.apart (show IsS120 w0 _ g s0_0 t305 t306 from si_) (ro_ HO309) (by decide)) hk (fun _ h => h.2)) (fun _ h => h.1)); replace HK := ak_ (KeepBut.trans (hk_ HK) hk (.inl rfl)); replace HB := ak_ hb; replace HI0 := ak_ hi; (try clear hb); (try clear hk); (try clear hi); have p25 : 0 ≤ (t298 : Int) := of_decide_eq_true (by first | (with_reducible assumption) | assumption); have q25 : (t298 : Int) < ((x3_1.length : Int) : Int) := of_decide_eq_true (by first | (with_reducible assumption) | assumption); obtain ⟨go25, co25, eo25, gb25, gl25, cl25, HG25⟩ := Kd.R_form HO_3.out (by omega); (first | cases eo25 | (injection eo25 with ea_ en_ ec_; (first | subst ea_ | (injection ea_ with ea_; subst ea_)); subst ec_; clear en_)); have GB25 := ak_ gb25; have GG25 := ak_ HG25; clear gb25 gl25 HG25; obtain ⟨ce25, hcl25, hM25, hcc25, hfr25⟩ := Kd.R_elem HO_3.out z103 (t298 : Int) p25 q25; obtain rfl := k103_openM hM25; have hx25_0 : w35.cell? ⟨go25, (t298 : Int).toNat * 2, none⟩ = some (.int .i64 ((rd_T103 x3_1 t298).f0)) := hcc25 0 _ rfl; have hx25_1 : w35.cell? ⟨go25, (t298 : Int).toNat * 2 + 1, none⟩ = some (.int .i64 ((rd_T103 x3_1 t298).f1)) := hcc25 1 _ rfl; have hf25_0 : w35.frozen? ⟨go25, (t298 : Int).toNat * 2, none⟩ = false := hfr25 0; have hf25_1 : w35.frozen? ⟨go25, (t298 : Int).toNat * 2 + 1, none⟩ = false := hfr25 1; clear hcl25 hcc25 hfr25 hM25; replace p25 := eq_true p25; replace q25 := eq_true q25; have HX36 := ak_ (show Kd.R k103 103 w35 w.heap.size (fun _ => True) (.slice (some ⟨go25, 0, none⟩) x3_1.length co26) x3_1 from (ro_ HO_3)); obtain ⟨ce36, hcl36, hM36, hcc36, hfr36⟩ := Kd.R_elem HX36.out z103 (t298 : Int) (of_decide_eq_true (by first | (with_reducible assumption) | assumption)) (by have h_ : (t298 : Int) < ((x3_1.length : Int) : Int) := of_decide_eq_true (by first | (with_reducible assumption) | assumption); first | exact h_ | (have e_ := (Kd.R_reads' HO_3.out).1; omega) | simpa using h_); obtain rfl := k103_openM hM36; have HP36 := Kd.R_seg HX36.out (t298 : Int) (of_decide_eq_true (by first | (with_reducible assumption) | assumption)) (by have h_ : (t298 : Int) < ((x3_1.length : Int) : Int) := of_decide_eq_true (by first | (with_reducible assumption) | assumption); first | exact h_ | (have e_ := (Kd.R_reads' HO_3.out).1; omega) | simpa using h_) (seg := [.int .i64 t304, .int .i64 t310]) (j := 0) hcl36 hcc36 (show 2 ≤ 2 from by decide) (x' := (⟨t304, t310⟩ : S103)) (k103_mkM _ _ _ (⟨t304, t310⟩ : S103) ) (fun _ hk => hk); have hx36_0 := hcc36 0 _ rfl; (try simp only [show (k103).sz = 2 from rfl, Nat.mul_one, Nat.add_zero] at hx36_0); have hf36_0 := hfr36 0; (try simp only [show (k103).sz = 2 from rfl, Nat.mul_one, Nat.add_zero] at hf36_0); have hx36_1 := hcc36 1 _ rfl; (try simp only [show (k103).sz = 2 from rfl, Nat.mul_one, Nat.add_zero] at hx36_1); have hf36_1 := hfr36 1; (try simp only [show (k103).sz = 2 from rfl, Nat.mul_one, Nat.add_zero] at hf36_1); clear hcl36 hcc36 hfr36 hM36) | ((with_reducible refine gate_store (t := 103) (p := 44) rfl ?_); refine store_event (t := 103) (p := 44) (v := ?vo_w37) (w1 := ((w35.setCell ⟨go25, (t298 : Int).toNat * 2, none⟩ (.int .i64 t304)).setCell ⟨go25, (t298 : Int).toNat * 2 + 1, none⟩ (.int .i64 t310))) ?hg ?ho ?hn ?hr ?_; (case ho => rfl); (case hg => rfl); (case hn => rfl); (case hr => first | (go_simp; done) | (go_simp; rfl)); intro w37 hw; have hg : w35.grownBy w37 (some go25) := (by rw [hw]; exact HP36.2); have hp_ : Kd.R k103 103 w37 w.heap.size (fun _ => True) (.slice (some ⟨go25, 0, none⟩) x3_1.length co26) y313 := (by rw [hw, Ny313.out]; exact HP36.1); clear HP36; replace HI0 := ak_ (IsS120.grown (spec_l06DrawMoves.is_ HI0.out si_) hg (IsS120.own_ne HI0.out HO_3.out (by decide))); replace HO303 := ak_ (Kd.R_over' (v := (.slice (some ⟨go25, 0, none⟩) x3_1.length co26)) (ro_ HO303) (Kd.R_typed HO_3.out) (by decide) hg); replace HO309 := ak_ (Kd.R_over' (v := (.slice (some ⟨go25, 0, none⟩) x3_1.length co26)) (ro_ HO309) (Kd.R_typed HO_3.out) (by decide) hg); replace HB := ak_ ((by rw [hw]; exact below_set (below_set (HB.out) (Nat.le_trans HL.out GB25.out)) (Nat.le_trans HL.out GB25.out) : Below w0.heap.size w0 w37)); replace HK := ak_ (KeepBut.trans (hk_ HK) (KeepBut.of_grown hg g) (Kd.R_base2 HO_3.out)); replace HO_3 := ak_ hp_; clear hg hw hp_))
         go_ret
         exact ⟨_, ew_, by (with_reducible repeat (first | apply Kd.R_alloc | apply Kd.R_drewN | apply Kd.R_drew)); exact HO_3.out, si_, (hbi_ HB), (hk_ HK)⟩
        ·rw [if_neg c24] at H
         exact absurd H (by simp)
       ·rw [if_neg c23] at H
        exact absurd H (by simp)
      ·replace c19 := Bool.eq_false_iff.mpr c19
       subst c19
       rw [if_neg (show ¬ (false = true) by decide)] at H
       simp only [Option.some.injEq, Prod.mk.injEq] at H
       obtain ⟨rfl, rfl, rfl⟩ := H
       go_wp2
       go_ret
       exact ⟨_, ew_, by (with_reducible repeat (first | apply Kd.R_alloc | apply Kd.R_drewN | apply Kd.R_drew)); exact HO_3.out, si_, (hbi_ HB), (hk_ HK)⟩

end Go.Proofs.Ytfjjlipfjddaiaa.Bo
