-- PRINTED by print.py (a twelfth state) out of the translation. Not trusted: Lean checks it.
import Derived.Test.YtfjjlipfjddaiaaBo0
import Derived.Test.YtfjjlipfjddaiaaBo1
import Derived.Test.YtfjjlipfjddaiaaBo2
import Derived.Test.YtfjjlipfjddaiaaBo4
namespace Go.Proofs.Ytfjjlipfjddaiaa.Bo
open Go.RowKit Go.Proofs.YtfjjlipfjddaiaaW.PrintWords Go.Proofs.YtfjjlipfjddaiaaW.PrintLast Go.Proofs.YtfjjlipfjddaiaaW.PrintMore
attribute [local go_sem] max2_int min2_int max_two min_two max_three min_three max_four min_four   -- for this text's walks alone
set_option linter.unusedVariables false
set_option linter.unusedSimpArgs false

/-! ### spec_l06DrawNotes: function 61 -/
mutual
def spec_l06DrawNotes.l0 : Nat → List (S109) → Int → Int → List Int → Int → Int → Option ((List (S109)) × Int × Int)
  | 0, _, _, _, _, _, _ => none
  | k + 1, x3, x4, x5, x1000, x1001, x1002 => if x5 > 0 then ((spec_l01Below.f x1000 x1001 x1002 8).bind fun bt243 => ((spec_l01Below.f x1000 bt243.2.1 bt243.2.2 12).bind fun bt246 => (if x3.length < 8796093022208 then (spec_l06DrawNotes.l0 k (x3 ++ [(⟨wrap64 (x4 + bt243.1), bt246.1⟩ : S109)]) (wrap64 (x4 + bt243.1)) (wrap64 (x5 - 1)) x1000 bt246.2.1 bt246.2.2) else (none)))) else ((spec_l01Once.f x1000 x1001 x1002 15).bind fun bt252 => (if bt252.1 = true then (spec_l06DrawNotes.j1 k x3 (decide ((x3.length : Int) > 0)) x1000 bt252.2.1 bt252.2.2) else (spec_l06DrawNotes.j1 k x3 false x1000 bt252.2.1 bt252.2.2)))
def spec_l06DrawNotes.j1 : Nat → List (S109) → Bool → List Int → Int → Int → Option ((List (S109)) × Int × Int)
  | 0, _, _, _, _, _ => none
  | k + 1, x3, x30, x1000, x1001, x1002 => if x30 = true then ((spec_l01Below.f x1000 x1001 x1002 (x3.length : Int)).bind fun bt255 => ((spec_l01PickInt.f x1000 bt255.2.1 bt255.2.2 (([(-1), 999, 0] : List Int))).bind fun bt261 => ((spec_l01PickInt.f x1000 bt261.2.1 bt261.2.2 (([(-1), 5, 1001] : List Int))).bind fun bt267 => (if 0 ≤ bt255.1 then (if bt255.1 < (x3.length : Int) then (spec_l06DrawNotes.j2 k (x3.set (bt255.1 : Int).toNat (⟨bt261.1, bt267.1⟩ : S109)) x1000 bt267.2.1 bt267.2.2) else (none)) else (none))))) else (spec_l06DrawNotes.j2 k x3 x1000 x1001 x1002)
def spec_l06DrawNotes.j2 : Nat → List (S109) → List Int → Int → Int → Option ((List (S109)) × Int × Int)
  | 0, _, _, _, _ => none
  | k + 1, x3, x1000, x1001, x1002 => (spec_l01Once.f x1000 x1001 x1002 40).bind fun bt271 => (if bt271.1 = true then (spec_l06DrawNotes.l1 k x3 x1000 bt271.2.1 bt271.2.2) else (some (x3, bt271.2.1, bt271.2.2)))
def spec_l06DrawNotes.l1 : Nat → List (S109) → List Int → Int → Int → Option ((List (S109)) × Int × Int)
  | 0, _, _, _, _ => none
  | k + 1, x3, x1000, x1001, x1002 => (spec_l01Below.f x1000 x1001 x1002 2).bind fun bt274 => (if (x3.length : Int) < (wrap64 (200 + bt274.1)) then (if x3.length < 8796093022208 then (spec_l06DrawNotes.l1 k (x3 ++ [(⟨90, 3⟩ : S109)]) x1000 bt274.2.1 bt274.2.2) else (none)) else (some (x3, bt274.2.1, bt274.2.2)))
end
def spec_l06DrawNotes.f (k : Nat) (s0_0 : List Int) (s0_1 : Int) (s0_2 : Int) : Option ((List (S109)) × Int × Int) := (spec_l01Below.f s0_0 s0_1 s0_2 10).bind fun bt240 => (spec_l06DrawNotes.l0 k (([] : List (S109))) 0 bt240.1 s0_0 bt240.2.1 bt240.2.2)
theorem spec_l06DrawNotes.mono_l : ∀ k, (∀ y0 y1 y2 y3 y4 y5, LeO (spec_l06DrawNotes.l0 k y0 y1 y2 y3 y4 y5) (spec_l06DrawNotes.l0 (k + 1) y0 y1 y2 y3 y4 y5)) ∧ (∀ y0 y1 y2 y3 y4, LeO (spec_l06DrawNotes.j1 k y0 y1 y2 y3 y4) (spec_l06DrawNotes.j1 (k + 1) y0 y1 y2 y3 y4)) ∧ (∀ y0 y1 y2 y3, LeO (spec_l06DrawNotes.j2 k y0 y1 y2 y3) (spec_l06DrawNotes.j2 (k + 1) y0 y1 y2 y3)) ∧ (∀ y0 y1 y2 y3, LeO (spec_l06DrawNotes.l1 k y0 y1 y2 y3) (spec_l06DrawNotes.l1 (k + 1) y0 y1 y2 y3))
  | 0 => ⟨fun _ _ _ _ _ _ r h => by simp [spec_l06DrawNotes.l0] at h, fun _ _ _ _ _ r h => by simp [spec_l06DrawNotes.j1] at h, fun _ _ _ _ r h => by simp [spec_l06DrawNotes.j2] at h, fun _ _ _ _ r h => by simp [spec_l06DrawNotes.l1] at h⟩
  | k + 1 => by
    obtain ⟨ih0, ih1, ih2, ih3⟩ := spec_l06DrawNotes.mono_l k
    refine ⟨?_, ?_, ?_, ?_⟩
    · intro y0 y1 y2 y3 y4 y5
      unfold spec_l06DrawNotes.l0
      repeat' with_reducible first | exact ih0 _ _ _ _ _ _ | exact ih1 _ _ _ _ _ | exact ih2 _ _ _ _ | exact ih3 _ _ _ _ | exact LeO.refl _ | exact LeO.none _ | refine LeO.ite ?_ ?_ | refine LeO.bind ?_ (fun _ => ?_)
    · intro y0 y1 y2 y3 y4
      unfold spec_l06DrawNotes.j1
      repeat' with_reducible first | exact ih0 _ _ _ _ _ _ | exact ih1 _ _ _ _ _ | exact ih2 _ _ _ _ | exact ih3 _ _ _ _ | exact LeO.refl _ | exact LeO.none _ | refine LeO.ite ?_ ?_ | refine LeO.bind ?_ (fun _ => ?_)
    · intro y0 y1 y2 y3
      unfold spec_l06DrawNotes.j2
      repeat' with_reducible first | exact ih0 _ _ _ _ _ _ | exact ih1 _ _ _ _ _ | exact ih2 _ _ _ _ | exact ih3 _ _ _ _ | exact LeO.refl _ | exact LeO.none _ | refine LeO.ite ?_ ?_ | refine LeO.bind ?_ (fun _ => ?_)
    · intro y0 y1 y2 y3
      unfold spec_l06DrawNotes.l1
      repeat' with_reducible first | exact ih0 _ _ _ _ _ _ | exact ih1 _ _ _ _ _ | exact ih2 _ _ _ _ | exact ih3 _ _ _ _ | exact LeO.refl _ | exact LeO.none _ | refine LeO.ite ?_ ?_ | refine LeO.bind ?_ (fun _ => ?_)
theorem spec_l06DrawNotes.mono : ∀ a0 a1 a2 k, LeO (spec_l06DrawNotes.f k a0 a1 a2) (spec_l06DrawNotes.f (k + 1) a0 a1 a2) := by
  intro a0 a1 a2 k
  obtain ⟨ih0, ih1, ih2, ih3⟩ := spec_l06DrawNotes.mono_l k
  unfold spec_l06DrawNotes.f
  repeat' with_reducible first | exact ih0 _ _ _ _ _ _ | exact ih1 _ _ _ _ _ | exact ih2 _ _ _ _ | exact ih3 _ _ _ _ | exact LeO.refl _ | exact LeO.none _ | refine LeO.ite ?_ ?_ | refine LeO.bind ?_ (fun _ => ?_)
theorem spec_l06DrawNotes.is_ {w0 W0 W : World} {g : Nat} {f0 : List Int} {f1 : Int} {f2 : Int} (_ : IsS120 w0 W0 g f0 f1 f2) (h : IsS120 w0 W g f0 f1 f2) : IsS120 w0 W g f0 f1 f2 := h
set_option maxHeartbeats 8000000 in
set_option maxRecDepth 100000 in
theorem spec_l06DrawNotes.calls (k : Nat) (g : Nat) (s0_0 : List Int) (s0_1 : Int) (s0_2 : Int) (r1 : List (S109)) (r2 : Int) (r3 : Int) (w0 w : World) (hI : IsS120 w0 w g s0_0 s0_1 s0_2) (hB : Below w0.heap.size w0 w) (h : spec_l06DrawNotes.f k s0_0 s0_1 s0_2 = some (r1, r2, r3)) :
  Calls Try.prog 61 #[.pointer (some ⟨g, 0, none⟩)] w fun e w' => ∃ v0_ : Value, e = .returned (v0_) ∧ Kd.R k109 109 w' w.heap.size (fun _ => True) v0_ r1 ∧ IsS120 w0 w' g s0_0 r2 r3 ∧ Below w0.heap.size w0 w' ∧ KeepBut w w' g none := by
 have hu109 := Try.underlying109
 have HI0 := ak_ hI
 have HK := ak_ (KeepBut.refl w g none)
 have HL := ak_ hB.size
 clear hI
 have HW0 := ak_ hB.size
 have HB := ak_ hB
 clear hB
 have H : ((spec_l01Below.f s0_0 s0_1 s0_2 10).bind fun bt240 => (spec_l06DrawNotes.l0 k (([] : List (S109))) 0 bt240.1 s0_0 bt240.2.1 bt240.2.2)) = some (r1, r2, r3) := h
 clear h
 obtain ⟨y237, hy237⟩ : ∃ y_ : List (S109), y_ = (([] : List (S109))) := ⟨_, rfl⟩
 replace H : ((spec_l01Below.f s0_0 s0_1 s0_2 10).bind fun bt240 => (spec_l06DrawNotes.l0 k y237 0 bt240.1 s0_0 bt240.2.1 bt240.2.2)) = some (r1, r2, r3) := by first | (rw [hy237]; with_reducible exact H) | (have H2_ := (Option.bind_some _ _).symm.trans H; rw [hy237]; with_reducible exact H2_) | (have H2_ := (Option.bind_some _ _).symm.trans H; with_reducible exact H2_) | with_reducible exact H | (rw [hy237]; exact H) | exact H
 have Ny237 := ak_ hy237
 clear hy237
 replace H := Option.bind_eq_some_iff.mp H
 obtain ⟨⟨t240, t241, t242⟩, A20, H⟩ := H
 replace H : (spec_l06DrawNotes.l0 k y237 0 t240 s0_0 t241 t242) = some (r1, r2, r3) := H
 have A2 := ak_ A20
 clear A20
 have H' := ak_ H
 clear H
 go_enter Try.func61, Try.ntmps61
 go_wp2_with (first | ((with_reducible refine gate_dst (N := 6) rfl ?_); refine Kd.R_lit k109 _ 109 ?hg (N := 6) ?hd (xs := ([] : List (S109))) (inner := []) (ok := fun _ => True) (okp := fun _ => True) ?hr ?hp (fun _ hk => hk) trivial (Below.refl _ _) (Nat.le_refl _) (by simp) ?_; (case hd => rfl); (case hg => rfl); (case hr => first | (go_simp; done) | (go_simp; rfl)); (case hp => exact (Reps.none _ _)); intro v238 w3 ho4 hb hg_ hnew_; clear hg_ hnew_; (first | rw [← Ny237.out] at ho4 | (simp only [Int.reduceToNat] at ho4; rw [← Ny237.out] at ho4)); have HO239 := ak_ (Kd.R_lower ho4 (keep_size (w := w) (g := g) (row := none) (hk_ HK))); replace HK := ak_ (KeepBut.trans (hk_ HK) (KeepBut.of_below hb g none) (.inl rfl)); replace HB := ak_ (below_step (hbi_ HB) hb); replace HI0 := ak_ (IsS120.below si_ hb); clear hb ho4) | ((with_reducible refine gate_callee (f := 96) rfl ?_); refine goesL_ (some 8) rfl rfl Try.func96 (by kernel_rfl) rfl #[.pointer (some ⟨g, 0, none⟩), .int .i64 10] rfl (ma2_ rfl rfl) ?_; (with_reducible refine (spec_l01Below.calls g s0_0 s0_1 s0_2 10 t240 t241 t242 w0 _ ?side1 ?side2 A2.out).mono ?_); (case side1 => exact si_); (case side2 => exact (hbi_ HB)); rintro e w5 ⟨rfl, hi, hb, hk⟩; refine ⟨_, rfl, ?_⟩; replace HO239 := ak_ (Kd.R_mono (Kd.R_keep (IsS120.apart (show IsS120 w0 _ g s0_0 s0_1 s0_2 from si_) (ro_ HO239) (by decide)) hk (fun _ h => h.2)) (fun _ h => h.1)); replace HK := ak_ (KeepBut.trans (hk_ HK) hk (.inl rfl)); replace HB := ak_ hb; replace HI0 := ak_ hi; (try clear hb); (try clear hk); (try clear hi)))
 go_loopg [3, 4, 5] k (fun kq v3 v4 v5 w' => ∃ (x3_1 : List (S109)) (x4_1 : Int) (x5_1 : Int) (x1001_1 : Int) (x1002_1 : Int), v4 = .int .i64 x4_1 ∧ v5 = .int .i64 x5_1 ∧ Aside0 (spec_l06DrawNotes.l0 kq x3_1 x4_1 x5_1 s0_0 x1001_1 x1002_1 = some (r1, r2, r3)) ∧ Aside0 (kq ≤ k) ∧ Aside0 (Kd.R k109 109 w' w.heap.size (fun _ => True) v3 x3_1) ∧ Aside0 (IsS120 w0 w' g s0_0 x1001_1 x1002_1) ∧ Aside0 (KeepBut w w' g none) ∧ Aside0 (Below w0.heap.size w0 w'))
 case atStart => exact ⟨(y237), (0), (t240), (t241), (t242), (by first | rfl | (simp; done) | (simp [*]; done)), (by first | rfl | (simp; done) | (simp [*]; done)), H', ⟨Nat.le_refl _⟩, ⟨by (with_reducible repeat (first | apply Kd.R_alloc | apply Kd.R_drewN | apply Kd.R_drew)); exact HO239.out⟩, ⟨si_⟩, ⟨(hk_ HK)⟩, ⟨(hbi_ HB)⟩⟩
 case round =>
  clear H'
  try clear p2
  obtain ⟨x3_1, x4_1, x5_1, x1001_1, x1002_1, rfl, rfl, HA, HK1, HO_3, HI0, HK, HB⟩ := hrel
  cases gk with
  | zero => exact absurd HA.out (by simp [spec_l06DrawNotes.l0])
  | succ k1 =>
   have H := HA.out
   clear HA
   simp only [spec_l06DrawNotes.l0] at H
   by_cases c6 : x5_1 > 0
   ·rw [if_pos c6] at H
    have c6b0 : decide (0 < x5_1) = true := decide_eq_true c6
    clear c6
    replace H := Option.bind_eq_some_iff.mp H
    obtain ⟨⟨t243, t244, t245⟩, A70, H⟩ := H
    replace H : ((spec_l01Below.f s0_0 t244 t245 12).bind fun bt246 => (if x3_1.length < 8796093022208 then (spec_l06DrawNotes.l0 k1 (x3_1 ++ [(⟨wrap64 (x4_1 + t243), bt246.1⟩ : S109)]) (wrap64 (x4_1 + t243)) (wrap64 (x5_1 - 1)) s0_0 bt246.2.1 bt246.2.2) else (none))) = some (r1, r2, r3) := H
    have A7 := ak_ A70
    clear A70
    replace H := Option.bind_eq_some_iff.mp H
    obtain ⟨⟨t246, t247, t248⟩, A80, H⟩ := H
    replace H : (if x3_1.length < 8796093022208 then (spec_l06DrawNotes.l0 k1 (x3_1 ++ [(⟨wrap64 (x4_1 + t243), t246⟩ : S109)]) (wrap64 (x4_1 + t243)) (wrap64 (x5_1 - 1)) s0_0 t247 t248) else (none)) = some (r1, r2, r3) := H
    have A8 := ak_ A80
    clear A80
    by_cases c9 : x3_1.length < 8796093022208
    ·rw [if_pos c9] at H
     have LMc9 := ak_ c9
     clear c9
     obtain ⟨y249, hy249⟩ : ∃ y_ : List (S109), y_ = (x3_1 ++ [(⟨wrap64 (x4_1 + t243), t246⟩ : S109)]) := ⟨_, rfl⟩
     replace H : (spec_l06DrawNotes.l0 k1 y249 (wrap64 (x4_1 + t243)) (wrap64 (x5_1 - 1)) s0_0 t247 t248) = some (r1, r2, r3) := by first | (rw [hy249]; with_reducible exact H) | (have H2_ := (Option.bind_some _ _).symm.trans H; rw [hy249]; with_reducible exact H2_) | (have H2_ := (Option.bind_some _ _).symm.trans H; with_reducible exact H2_) | with_reducible exact H | (rw [hy249]; exact H) | exact H
     have Ny249 := ak_ hy249
     clear hy249
     have H' := ak_ H
     clear H
     go_wp2_with (first | ((with_reducible refine gate_callee (f := 96) rfl ?_); refine goesL_ (some 15) rfl rfl Try.func96 (by kernel_rfl) rfl #[.pointer (some ⟨g, 0, none⟩), .int .i64 8] rfl (ma2_ rfl rfl) ?_; (with_reducible refine (spec_l01Below.calls g s0_0 x1001_1 x1002_1 8 t243 t244 t245 w0 _ ?side1 ?side2 A7.out).mono ?_); (case side1 => exact si_); (case side2 => exact (hbi_ HB)); rintro e w10 ⟨rfl, hi, hb, hk⟩; refine ⟨_, rfl, ?_⟩; replace HO_3 := ak_ (Kd.R_mono (Kd.R_keep (IsS120.apart (show IsS120 w0 _ g s0_0 x1001_1 x1002_1 from si_) (ro_ HO_3) (by decide)) hk (fun _ h => h.2)) (fun _ h => h.1)); replace HK := ak_ (KeepBut.trans (hk_ HK) hk (.inl rfl)); replace HB := ak_ hb; replace HI0 := ak_ hi; (try clear hb); (try clear hk); (try clear hi)) | ((with_reducible refine gate_callee (f := 96) rfl ?_); refine goesL_ (some 20) rfl rfl Try.func96 (by kernel_rfl) rfl #[.pointer (some ⟨g, 0, none⟩), .int .i64 12] rfl (ma2_ rfl rfl) ?_; (with_reducible refine (spec_l01Below.calls g s0_0 t244 t245 12 t246 t247 t248 w0 _ ?side1 ?side2 A8.out).mono ?_); (case side1 => exact si_); (case side2 => exact (hbi_ HB)); rintro e w11 ⟨rfl, hi, hb, hk⟩; refine ⟨_, rfl, ?_⟩; replace HO_3 := ak_ (Kd.R_mono (Kd.R_keep (IsS120.apart (show IsS120 w0 _ g s0_0 t244 t245 from si_) (ro_ HO_3) (by decide)) hk (fun _ h => h.2)) (fun _ h => h.1)); replace HK := ak_ (KeepBut.trans (hk_ HK) hk (.inl rfl)); replace HB := ak_ hb; replace HI0 := ak_ hi; (try clear hb); (try clear hk); (try clear hi)) | ((with_reducible refine gate_builtin (b := .append) (xs := #[.tmp 17, .tmp 22]) rfl ?_); at_builtin; refine Kd.R_append k109 w.heap.size rfl (.tmp 17) (.tmp 22) 36 109 (.agg #[(.int .i64 0), (.int .i64 0)]) 16 rfl Try.underlying36 info109 rfl (by decide) (by omega) u3 x3_1 (⟨wrap64 (x4_1 + t243), t246⟩ : S109) [.int .i64 (wrap64 (x4_1 + t243)), .int .i64 t246] (fun _ => True) (fun _ => False) rfl rfl ?aP (fun _ hk => hk.elim) ?aF ?aO (Below.refl _ _) ?aS ?aL ?_; (case aP => exact k109_mkM _ _ _ (⟨wrap64 (x4_1 + t243), t246⟩ : S109)); (case aF => exact (fun _ _ => trivial)); (case aO => exact (ro_ HO_3)); (case aS => exact (keep_size (w := w) (g := g) (row := none) (hk_ HK))); (case aL => have := LMc9.out; omega); intro v250 w12 ho hb hg hat; rw [← Ny249.out] at ho; replace HB := ak_ (below_weaken (hbi_ HB) HL.out hb); replace HI0 := ak_ (IsS120.grown (spec_l06DrawNotes.is_ HI0.out si_) hg (IsS120.own_ne HI0.out HO_3.out (by decide))); replace HK := ak_ (KeepBut.trans (hk_ HK) (KeepBut.of_grown hg g) (Kd.R_base2 HO_3.out)); have HO251 := ak_ ho; clear HO_3; clear ho hb hg hat))
     go_roundg k1
     case measure => have := HK1.out; omega
     case rel => exact ⟨(y249), (wrap64 (x4_1 + t243)), (wrap64 (x5_1 - 1)), (t247), (t248), (by first | rfl | (simp; done) | (simp [*]; done)), (by first | rfl | (simp; done) | (simp [*]; done)), H', ⟨by have := HK1.out; omega⟩, ⟨by (with_reducible repeat (first | apply Kd.R_alloc | apply Kd.R_drewN | apply Kd.R_drew)); exact HO251.out⟩, ⟨si_⟩, ⟨(hk_ HK)⟩, ⟨(hbi_ HB)⟩⟩
    ·rw [if_neg c9] at H
     exact absurd H (by simp)
   ·rw [if_neg c6] at H
    have c6b0 : decide (0 < x5_1) = false := decide_eq_false c6
    clear c6
    have HC13 := ak_ H
    clear H
    go_upto_region 8 with (fail)
    go_cut [30] (fun v30 wc => ∃ (kq : Nat) (x30_12 : Bool) (x1001_12 : Int) (x1002_12 : Int), v30 = .bool x30_12 ∧ Aside0 (spec_l06DrawNotes.j1 kq x3_1 x30_12 s0_0 x1001_12 x1002_12 = some (r1, r2, r3)) ∧ Aside0 (kq ≤ k1) ∧ Aside0 (Kd.R k109 109 wc w.heap.size (fun _ => True) u3 x3_1) ∧ Aside0 (IsS120 w0 wc g s0_0 x1001_12 x1002_12) ∧ Aside0 (KeepBut w wc g none) ∧ Aside0 (Below w0.heap.size w0 wc))
    case first =>
     have H := HC13.out
     clear HC13
     replace H := Option.bind_eq_some_iff.mp H
     obtain ⟨⟨t252, t253, t254⟩, A140, H⟩ := H
     replace H : (if t252 = true then (spec_l06DrawNotes.j1 k1 x3_1 (decide ((x3_1.length : Int) > 0)) s0_0 t253 t254) else (spec_l06DrawNotes.j1 k1 x3_1 false s0_0 t253 t254)) = some (r1, r2, r3) := H
     have A14 := ak_ A140
     clear A140
     by_cases c15 : t252 = true
     ·subst c15
      rw [if_pos rfl] at H
      have H' := ak_ H
      clear H
      go_wp2_with (first | ((with_reducible refine gate_callee (f := 95) rfl ?_); refine goesL_ (some 25) rfl rfl Try.func95 (by kernel_rfl) rfl #[.pointer (some ⟨g, 0, none⟩), .int .i64 15] rfl (ma2_ rfl rfl) ?_; (with_reducible refine (spec_l01Once.calls g s0_0 x1001_1 x1002_1 15 true t253 t254 w0 _ ?side1 ?side2 A14.out).mono ?_); (case side1 => exact si_); (case side2 => exact (hbi_ HB)); rintro e w16 ⟨rfl, hi, hb, hk⟩; refine ⟨_, rfl, ?_⟩; replace HO_3 := ak_ (Kd.R_mono (Kd.R_keep (IsS120.apart (show IsS120 w0 _ g s0_0 x1001_1 x1002_1 from si_) (ro_ HO_3) (by decide)) hk (fun _ h => h.2)) (fun _ h => h.1)); replace HK := ak_ (KeepBut.trans (hk_ HK) hk (.inl rfl)); replace HB := ak_ hb; replace HI0 := ak_ hi; (try clear hb); (try clear hk); (try clear hi); obtain ⟨Ao17, co17, eo17⟩ := Kd.R_slice HO_3.out; subst eo17))
      go_meet
      case rel => exact ⟨_, (decide ((x3_1.length : Int) > 0)), (t253), (t254), (by first | rfl | (simp; done) | (simp [*]; done)), H', ⟨by have := HK1.out; first | omega | exact Nat.le_refl _⟩, ⟨by (with_reducible repeat (first | apply Kd.R_alloc | apply Kd.R_drewN | apply Kd.R_drew)); exact HO_3.out⟩, ⟨si_⟩, ⟨(hk_ HK)⟩, ⟨(hbi_ HB)⟩⟩
     ·replace c15 := Bool.eq_false_iff.mpr c15
      subst c15
      rw [if_neg (show ¬ (false = true) by decide)] at H
      have H' := ak_ H
      clear H
      go_wp2_with (first | ((with_reducible refine gate_callee (f := 95) rfl ?_); refine goesL_ (some 25) rfl rfl Try.func95 (by kernel_rfl) rfl #[.pointer (some ⟨g, 0, none⟩), .int .i64 15] rfl (ma2_ rfl rfl) ?_; (with_reducible refine (spec_l01Once.calls g s0_0 x1001_1 x1002_1 15 false t253 t254 w0 _ ?side1 ?side2 A14.out).mono ?_); (case side1 => exact si_); (case side2 => exact (hbi_ HB)); rintro e w18 ⟨rfl, hi, hb, hk⟩; refine ⟨_, rfl, ?_⟩; replace HO_3 := ak_ (Kd.R_mono (Kd.R_keep (IsS120.apart (show IsS120 w0 _ g s0_0 x1001_1 x1002_1 from si_) (ro_ HO_3) (by decide)) hk (fun _ h => h.2)) (fun _ h => h.1)); replace HK := ak_ (KeepBut.trans (hk_ HK) hk (.inl rfl)); replace HB := ak_ hb; replace HI0 := ak_ hi; (try clear hb); (try clear hk); (try clear hi)))
      go_meet
      case rel => exact ⟨_, (false), (t253), (t254), (by first | rfl | (simp; done) | (simp [*]; done)), H', ⟨by have := HK1.out; first | omega | exact Nat.le_refl _⟩, ⟨by (with_reducible repeat (first | apply Kd.R_alloc | apply Kd.R_drewN | apply Kd.R_drew)); exact HO_3.out⟩, ⟨si_⟩, ⟨(hk_ HK)⟩, ⟨(hbi_ HB)⟩⟩
    case rest =>
     clear HC13
     try clear c1
     try clear p2
     try clear c6
     try clear c6b0
     try clear p6
     try clear c9
     try clear c15
     try clear p2
     obtain ⟨kq, x30_12, x1001_12, x1002_12, rfl, HA, HJ12, HO_3, HI0, HK, HB⟩ := hcut
     cases kq with
     | zero => exact absurd HA.out (by simp [spec_l06DrawNotes.j1])
     | succ kj12 =>
      have H := HA.out
      clear HA
      simp only [spec_l06DrawNotes.j1] at H
      have HC19 := ak_ H
      clear H
      go_upto_if 30 with (fail)
      go_cut [] (fun wc => ∃ (kq : Nat) (x3_18 : List (S109)) (x1001_18 : Int) (x1002_18 : Int), Aside0 (spec_l06DrawNotes.j2 kq x3_18 s0_0 x1001_18 x1002_18 = some (r1, r2, r3)) ∧ Aside0 (kq ≤ kj12) ∧ Aside0 (Kd.R k109 109 wc w.heap.size (fun _ => True) u3 x3_18) ∧ Aside0 (IsS120 w0 wc g s0_0 x1001_18 x1002_18) ∧ Aside0 (KeepBut w wc g none) ∧ Aside0 (Below w0.heap.size w0 wc))
      case first =>
       have H := HC19.out
       clear HC19
       by_cases c20 : x30_12 = true
       ·subst c20
        rw [if_pos rfl] at H
        replace H := Option.bind_eq_some_iff.mp H
        obtain ⟨⟨t255, t256, t257⟩, A210, H⟩ := H
        replace H : ((spec_l01PickInt.f s0_0 t256 t257 (([(-1), 999, 0] : List Int))).bind fun bt261 => ((spec_l01PickInt.f s0_0 bt261.2.1 bt261.2.2 (([(-1), 5, 1001] : List Int))).bind fun bt267 => (if 0 ≤ t255 then (if t255 < (x3_1.length : Int) then (spec_l06DrawNotes.j2 kj12 (x3_1.set (t255 : Int).toNat (⟨bt261.1, bt267.1⟩ : S109)) s0_0 bt267.2.1 bt267.2.2) else (none)) else (none)))) = some (r1, r2, r3) := H
        have A21 := ak_ A210
        clear A210
        obtain ⟨y258, hy258⟩ : ∃ y_ : List Int, y_ = (([(-1), 999, 0] : List Int)) := ⟨_, rfl⟩
        replace H : ((spec_l01PickInt.f s0_0 t256 t257 y258).bind fun bt261 => ((spec_l01PickInt.f s0_0 bt261.2.1 bt261.2.2 (([(-1), 5, 1001] : List Int))).bind fun bt267 => (if 0 ≤ t255 then (if t255 < (x3_1.length : Int) then (spec_l06DrawNotes.j2 kj12 (x3_1.set (t255 : Int).toNat (⟨bt261.1, bt267.1⟩ : S109)) s0_0 bt267.2.1 bt267.2.2) else (none)) else (none)))) = some (r1, r2, r3) := by first | (rw [hy258]; with_reducible exact H) | (have H2_ := (Option.bind_some _ _).symm.trans H; rw [hy258]; with_reducible exact H2_) | (have H2_ := (Option.bind_some _ _).symm.trans H; with_reducible exact H2_) | with_reducible exact H | (rw [hy258]; exact H) | exact H
        have Ny258 := ak_ hy258
        clear hy258
        replace H := Option.bind_eq_some_iff.mp H
        obtain ⟨⟨t261, t262, t263⟩, A220, H⟩ := H
        replace H : ((spec_l01PickInt.f s0_0 t262 t263 (([(-1), 5, 1001] : List Int))).bind fun bt267 => (if 0 ≤ t255 then (if t255 < (x3_1.length : Int) then (spec_l06DrawNotes.j2 kj12 (x3_1.set (t255 : Int).toNat (⟨t261, bt267.1⟩ : S109)) s0_0 bt267.2.1 bt267.2.2) else (none)) else (none))) = some (r1, r2, r3) := H
        have A22 := ak_ A220
        clear A220
        obtain ⟨y264, hy264⟩ : ∃ y_ : List Int, y_ = (([(-1), 5, 1001] : List Int)) := ⟨_, rfl⟩
        replace H : ((spec_l01PickInt.f s0_0 t262 t263 y264).bind fun bt267 => (if 0 ≤ t255 then (if t255 < (x3_1.length : Int) then (spec_l06DrawNotes.j2 kj12 (x3_1.set (t255 : Int).toNat (⟨t261, bt267.1⟩ : S109)) s0_0 bt267.2.1 bt267.2.2) else (none)) else (none))) = some (r1, r2, r3) := by first | (rw [hy264]; with_reducible exact H) | (have H2_ := (Option.bind_some _ _).symm.trans H; rw [hy264]; with_reducible exact H2_) | (have H2_ := (Option.bind_some _ _).symm.trans H; with_reducible exact H2_) | with_reducible exact H | (rw [hy264]; exact H) | exact H
        have Ny264 := ak_ hy264
        clear hy264
        replace H := Option.bind_eq_some_iff.mp H
        obtain ⟨⟨t267, t268, t269⟩, A230, H⟩ := H
        replace H : (if 0 ≤ t255 then (if t255 < (x3_1.length : Int) then (spec_l06DrawNotes.j2 kj12 (x3_1.set (t255 : Int).toNat (⟨t261, t267⟩ : S109)) s0_0 t268 t269) else (none)) else (none)) = some (r1, r2, r3) := H
        have A23 := ak_ A230
        clear A230
        by_cases c24 : 0 ≤ t255
        ·rw [if_pos c24] at H
         have c24b0 : decide (0 ≤ t255) = true := decide_eq_true c24
         clear c24
         (first | rw [c24b0] | (simp only [i64_w, i32_w]; rw [c24b0]) | skip)
         by_cases c25 : t255 < (x3_1.length : Int)
         ·rw [if_pos c25] at H
          have c25b0 : decide (t255 < (x3_1.length : Int)) = true := decide_eq_true c25
          clear c25
          obtain ⟨y270, hy270⟩ : ∃ y_ : List (S109), y_ = (x3_1.set (t255 : Int).toNat (⟨t261, t267⟩ : S109)) := ⟨_, rfl⟩
          replace H : (spec_l06DrawNotes.j2 kj12 y270 s0_0 t268 t269) = some (r1, r2, r3) := by first | (rw [hy270]; with_reducible exact H) | (have H2_ := (Option.bind_some _ _).symm.trans H; rw [hy270]; with_reducible exact H2_) | (have H2_ := (Option.bind_some _ _).symm.trans H; with_reducible exact H2_) | with_reducible exact H | (rw [hy270]; exact H) | exact H
          have Ny270 := ak_ hy270
          clear hy270
          have H' := ak_ H
          clear H
          obtain ⟨Ao27, co27, eo27⟩ := Kd.R_slice HO_3.out
          subst eo27
          go_wp2_with (first | ((with_reducible refine gate_callee (f := 96) rfl ?_); refine goesL_ (some 35) rfl rfl Try.func96 (by kernel_rfl) rfl #[.pointer (some ⟨g, 0, none⟩), .int .i64 (x3_1.length : Int)] rfl (ma2_ rfl rfl) ?_; (with_reducible refine (spec_l01Below.calls g s0_0 x1001_12 x1002_12 (x3_1.length : Int) t255 t256 t257 w0 _ ?side1 ?side2 A21.out).mono ?_); (case side1 => exact si_); (case side2 => exact (hbi_ HB)); rintro e w28 ⟨rfl, hi, hb, hk⟩; refine ⟨_, rfl, ?_⟩; replace HO_3 := ak_ (Kd.R_mono (Kd.R_keep (IsS120.apart (show IsS120 w0 _ g s0_0 x1001_12 x1002_12 from si_) (ro_ HO_3) (by decide)) hk (fun _ h => h.2)) (fun _ h => h.1)); replace HK := ak_ (KeepBut.trans (hk_ HK) hk (.inl rfl)); replace HB := ak_ hb; replace HI0 := ak_ hi; (try clear hb); (try clear hk); (try clear hi)) | ((with_reducible refine gate_dst (N := 37) rfl ?_); refine Kd.R_lit (Kd.int .i64) _ 3 ?hg (N := 37) ?hd (xs := ([(-1), 999, 0] : List Int)) (inner := [.int .i64 (-1), .int .i64 999, .int .i64 0]) (ok := fun _ => True) (okp := fun _ => True) ?hr ?hp (fun _ hk => hk) trivial (Below.refl _ _) (Nat.le_refl _) (by simp) ?_; (case hd => rfl); (case hg => rfl); (case hr => first | (go_simp; done) | (go_simp; rfl)); (case hp => exact (Reps.one (show Kd.M (Kd.int .i64) _ _ _ (-1) [.int .i64 (-1)] from rfl) (Reps.one (show Kd.M (Kd.int .i64) _ _ _ 999 [.int .i64 999] from rfl) (Reps.one (show Kd.M (Kd.int .i64) _ _ _ 0 [.int .i64 0] from rfl) (Reps.none _ _))))); intro v259 w29 ho30 hb hg_ hnew_; clear hg_ hnew_; (first | rw [← Ny258.out] at ho30 | (simp only [Int.reduceToNat] at ho30; rw [← Ny258.out] at ho30)); replace HO_3 := ak_ (Kd.R_below (ro_ HO_3) hb); have HO260 := ak_ (Kd.R_lower ho30 (keep_size (w := w) (g := g) (row := none) (hk_ HK))); replace HK := ak_ (KeepBut.trans (hk_ HK) (KeepBut.of_below hb g none) (.inl rfl)); replace HB := ak_ (below_step (hbi_ HB) hb); replace HI0 := ak_ (IsS120.below si_ hb); clear hb ho30; obtain ⟨Ao31, co31, eo31⟩ := Kd.R_slice HO260.out; subst eo31) | ((with_reducible refine gate_callee (f := 97) rfl ?_); refine goesL_ (some 38) rfl rfl Try.func97 (by kernel_rfl) rfl #[.pointer (some ⟨g, 0, none⟩), .slice Ao31 y258.length co31] rfl (ma2_ rfl rfl) ?_; (with_reducible refine (spec_l01PickInt.calls g s0_0 t256 t257 _ _ y258 t261 t262 t263 w0 _ ?side1 ?side2 ?side3 ?side4 ?side5 A22.out).mono ?_); (case side1 => exact si_); (case side2 => exact (hbi_ HB)); (case side3 => repeat (first | exact (Kd.R_reads' HO260.out).2.2 | (with_reducible refine Kd.C_alloc ?_ _) | (with_reducible refine Kd.C_drewN ?_ _) | (with_reducible refine Kd.C_drew ?_))); (case side4 => exact (Kd.R_reads' HO260.out).2.1); (case side5 => exact far_slice (IsS120.own_ne HI0.out HO260.out (by decide))); rintro e w32 ⟨rfl, hi, hb, hk⟩; refine ⟨_, rfl, ?_⟩; replace HO_3 := ak_ (Kd.R_mono (Kd.R_keep (IsS120.apart (show IsS120 w0 _ g s0_0 t256 t257 from si_) (ro_ HO_3) (by decide)) hk (fun _ h => h.2)) (fun _ h => h.1)); replace HO260 := ak_ (Kd.R_mono (Kd.R_keep (IsS120.apart (show IsS120 w0 _ g s0_0 t256 t257 from si_) (ro_ HO260) (by decide)) hk (fun _ h => h.2)) (fun _ h => h.1)); replace HK := ak_ (KeepBut.trans (hk_ HK) hk (.inl rfl)); replace HB := ak_ hb; replace HI0 := ak_ hi; (try clear hb); (try clear hk); (try clear hi)) | ((with_reducible refine gate_dst (N := 40) rfl ?_); refine Kd.R_lit (Kd.int .i64) _ 3 ?hg (N := 40) ?hd (xs := ([(-1), 5, 1001] : List Int)) (inner := [.int .i64 (-1), .int .i64 5, .int .i64 1001]) (ok := fun _ => True) (okp := fun _ => True) ?hr ?hp (fun _ hk => hk) trivial (Below.refl _ _) (Nat.le_refl _) (by simp) ?_; (case hd => rfl); (case hg => rfl); (case hr => first | (go_simp; done) | (go_simp; rfl)); (case hp => exact (Reps.one (show Kd.M (Kd.int .i64) _ _ _ (-1) [.int .i64 (-1)] from rfl) (Reps.one (show Kd.M (Kd.int .i64) _ _ _ 5 [.int .i64 5] from rfl) (Reps.one (show Kd.M (Kd.int .i64) _ _ _ 1001 [.int .i64 1001] from rfl) (Reps.none _ _))))); intro v265 w33 ho34 hb hg_ hnew_; clear hg_ hnew_; (first | rw [← Ny264.out] at ho34 | (simp only [Int.reduceToNat] at ho34; rw [← Ny264.out] at ho34)); replace HO_3 := ak_ (Kd.R_below (ro_ HO_3) hb); have HO266 := ak_ (Kd.R_lower (Kd.R_new' ho34 (Kd.R_lt (ro_ HO260))) (keep_size (w := w) (g := g) (row := none) (hk_ HK))); replace HO260 := ak_ (Kd.R_elder' (ro_ HO260) (Kd.R_base ho34) hb); replace HK := ak_ (KeepBut.trans (hk_ HK) (KeepBut.of_below hb g none) (.inl rfl)); replace HB := ak_ (below_step (hbi_ HB) hb); replace HI0 := ak_ (IsS120.below si_ hb); clear hb ho34; obtain ⟨Ao35, co35, eo35⟩ := Kd.R_slice HO266.out; subst eo35) | ((with_reducible refine gate_callee (f := 97) rfl ?_); refine goesL_ (some 41) rfl rfl Try.func97 (by kernel_rfl) rfl #[.pointer (some ⟨g, 0, none⟩), .slice Ao35 y264.length co35] rfl (ma2_ rfl rfl) ?_; (with_reducible refine (spec_l01PickInt.calls g s0_0 t262 t263 _ _ y264 t267 t268 t269 w0 _ ?side1 ?side2 ?side3 ?side4 ?side5 A23.out).mono ?_); (case side1 => exact si_); (case side2 => exact (hbi_ HB)); (case side3 => repeat (first | exact (Kd.R_reads' HO266.out).2.2 | (with_reducible refine Kd.C_alloc ?_ _) | (with_reducible refine Kd.C_drewN ?_ _) | (with_reducible refine Kd.C_drew ?_))); (case side4 => exact (Kd.R_reads' HO266.out).2.1); (case side5 => exact far_slice (IsS120.own_ne HI0.out HO266.out (by decide))); rintro e w36 ⟨rfl, hi, hb, hk⟩; refine ⟨_, rfl, ?_⟩; replace HO_3 := ak_ (Kd.R_mono (Kd.R_keep (IsS120.apart (show IsS120 w0 _ g s0_0 t262 t263 from si_) (ro_ HO_3) (by decide)) hk (fun _ h => h.2)) (fun _ h => h.1)); replace HO260 := ak_ (Kd.R_mono (Kd.R_keep (IsS120.apart (show IsS120 w0 _ g s0_0 t262 t263 from si_) (ro_ HO260) (by decide)) hk (fun _ h => h.2)) (fun _ h => h.1)); replace HO266 := ak_ (Kd.R_mono (Kd.R_keep (IsS120.apart (show IsS120 w0 _ g s0_0 t262 t263 from si_) (ro_ HO266) (by decide)) hk (fun _ h => h.2)) (fun _ h => h.1)); replace HK := ak_ (KeepBut.trans (hk_ HK) hk (.inl rfl)); replace HB := ak_ hb; replace HI0 := ak_ hi; (try clear hb); (try clear hk); (try clear hi); have p26 : 0 ≤ (t255 : Int) := of_decide_eq_true (by first | (with_reducible assumption) | assumption); have q26 : (t255 : Int) < ((x3_1.length : Int) : Int) := of_decide_eq_true (by first | (with_reducible assumption) | assumption); obtain ⟨go26, co26, eo26, gb26, gl26, cl26, HG26⟩ := Kd.R_form HO_3.out (by omega); (first | cases eo26 | (injection eo26 with ea_ en_ ec_; (first | subst ea_ | (injection ea_ with ea_; subst ea_)); subst ec_; clear en_)); have GB26 := ak_ gb26; have GG26 := ak_ HG26; clear gb26 gl26 HG26; obtain ⟨ce26, hcl26, hM26, hcc26, hfr26⟩ := Kd.R_elem HO_3.out z109 (t255 : Int) p26 q26; obtain rfl := k109_openM hM26; have hx26_0 : w36.cell? ⟨go26, (t255 : Int).toNat * 2, none⟩ = some (.int .i64 ((rd_T109 x3_1 t255).f0)) := hcc26 0 _ rfl; have hx26_1 : w36.cell? ⟨go26, (t255 : Int).toNat * 2 + 1, none⟩ = some (.int .i64 ((rd_T109 x3_1 t255).f1)) := hcc26 1 _ rfl; have hf26_0 : w36.frozen? ⟨go26, (t255 : Int).toNat * 2, none⟩ = false := hfr26 0; have hf26_1 : w36.frozen? ⟨go26, (t255 : Int).toNat * 2 + 1, none⟩ = false := hfr26 1; clear hcl26 hcc26 hfr26 hM26; replace p26 := eq_true p26; replace q26 := eq_true q26; have HX37 := ak_ (show Kd.R k109 109 w36 w.heap.size (fun _ => True) (.slice (some ⟨go26, 0, none⟩) x3_1.length co27) x3_1 from (ro_ HO_3)); obtain ⟨ce37, hcl37, hM37, hcc37, hfr37⟩ := Kd.R_elem HX37.out z109 (t255 : Int) (of_decide_eq_true (by first | (with_reducible assumption) | assumption)) (by have h_ : (t255 : Int) < ((x3_1.length : Int) : Int) := of_decide_eq_true (by first | (with_reducible assumption) | assumption); first | exact h_ | (have e_ := (Kd.R_reads' HO_3.out).1; omega) | simpa using h_); obtain rfl := k109_openM hM37; have HP37 := Kd.R_seg HX37.out (t255 : Int) (of_decide_eq_true (by first | (with_reducible assumption) | assumption)) (by have h_ : (t255 : Int) < ((x3_1.length : Int) : Int) := of_decide_eq_true (by first | (with_reducible assumption) | assumption); first | exact h_ | (have e_ := (Kd.R_reads' HO_3.out).1; omega) | simpa using h_) (seg := [.int .i64 t261, .int .i64 t267]) (j := 0) hcl37 hcc37 (show 2 ≤ 2 from by decide) (x' := (⟨t261, t267⟩ : S109)) (k109_mkM _ _ _ (⟨t261, t267⟩ : S109) ) (fun _ hk => hk); have hx37_0 := hcc37 0 _ rfl; (try simp only [show (k109).sz = 2 from rfl, Nat.mul_one, Nat.add_zero] at hx37_0); have hf37_0 := hfr37 0; (try simp only [show (k109).sz = 2 from rfl, Nat.mul_one, Nat.add_zero] at hf37_0); have hx37_1 := hcc37 1 _ rfl; (try simp only [show (k109).sz = 2 from rfl, Nat.mul_one, Nat.add_zero] at hx37_1); have hf37_1 := hfr37 1; (try simp only [show (k109).sz = 2 from rfl, Nat.mul_one, Nat.add_zero] at hf37_1); clear hcl37 hcc37 hfr37 hM37) | ((with_reducible refine gate_store (t := 109) (p := 43) rfl ?_); refine store_event (t := 109) (p := 43) (v := ?vo_w38) (w1 := ((w36.setCell ⟨go26, (t255 : Int).toNat * 2, none⟩ (.int .i64 t261)).setCell ⟨go26, (t255 : Int).toNat * 2 + 1, none⟩ (.int .i64 t267))) ?hg ?ho ?hn ?hr ?_; (case ho => rfl); (case hg => rfl); (case hn => rfl); (case hr => first | (go_simp; done) | (go_simp; rfl)); intro w38 hw; have hg : w36.grownBy w38 (some go26) := (by rw [hw]; exact HP37.2); have hp_ : Kd.R k109 109 w38 w.heap.size (fun _ => True) (.slice (some ⟨go26, 0, none⟩) x3_1.length co27) y270 := (by rw [hw, Ny270.out]; exact HP37.1); clear HP37; replace HI0 := ak_ (IsS120.grown (spec_l06DrawNotes.is_ HI0.out si_) hg (IsS120.own_ne HI0.out HO_3.out (by decide))); replace HO260 := ak_ (Kd.R_over' (v := (.slice (some ⟨go26, 0, none⟩) x3_1.length co27)) (ro_ HO260) (Kd.R_typed HO_3.out) (by decide) hg); replace HO266 := ak_ (Kd.R_over' (v := (.slice (some ⟨go26, 0, none⟩) x3_1.length co27)) (ro_ HO266) (Kd.R_typed HO_3.out) (by decide) hg); replace HB := ak_ ((by rw [hw]; exact below_set (below_set (HB.out) (Nat.le_trans HL.out GB26.out)) (Nat.le_trans HL.out GB26.out) : Below w0.heap.size w0 w38)); replace HK := ak_ (KeepBut.trans (hk_ HK) (KeepBut.of_grown hg g) (Kd.R_base2 HO_3.out)); replace HO_3 := ak_ hp_; clear hg hw hp_))
          go_meet
          case rel => exact ⟨_, (y270), (t268), (t269), H', ⟨by have := HK1.out; have := HJ12.out; first | omega | exact Nat.le_refl _⟩, ⟨by (with_reducible repeat (first | apply Kd.R_alloc | apply Kd.R_drewN | apply Kd.R_drew)); exact HO_3.out⟩, ⟨si_⟩, ⟨(hk_ HK)⟩, ⟨(hbi_ HB)⟩⟩
         ·rw [if_neg c25] at H
          exact absurd H (by simp)
        ·rw [if_neg c24] at H
         exact absurd H (by simp)
       ·replace c20 := Bool.eq_false_iff.mpr c20
        subst c20
        rw [if_neg (show ¬ (false = true) by decide)] at H
        have H' := ak_ H
        clear H
        go_wp2
        go_meet
        case rel => exact ⟨_, (x3_1), (x1001_12), (x1002_12), H', ⟨by have := HK1.out; have := HJ12.out; first | omega | exact Nat.le_refl _⟩, ⟨by (with_reducible repeat (first | apply Kd.R_alloc | apply Kd.R_drewN | apply Kd.R_drew)); exact HO_3.out⟩, ⟨si_⟩, ⟨(hk_ HK)⟩, ⟨(hbi_ HB)⟩⟩
      case rest =>
       clear HC19
       try clear c1
       try clear c2
       try clear p2
       try clear q2
       try clear hx2
       try clear hf2
       try clear c3
       try clear hx3
       try clear hf3
       try clear c6
       try clear c6b0
       try clear p6
       try clear c9
       try clear c15
       try clear c20
       try clear c24
       try clear c24b0
       try clear c25
       try clear c25b0
       try clear c26
       try clear p26
       try clear q26
       try clear hx26
       try clear hf26
       try clear c37
       try clear hx37
       try clear hf37
       try clear hx26_0
       try clear hx26_1
       try clear hx37_0
       try clear hx37_1
       try clear p2
       try clear p26
       try clear p6
       try clear q26
       obtain ⟨kq, x3_18, x1001_18, x1002_18, HA, HJ18, HO_3, HI0, HK, HB⟩ := hcut
       cases kq with
       | zero => exact absurd HA.out (by simp [spec_l06DrawNotes.j2])
       | succ kj18 =>
        have H := HA.out
        clear HA
        simp only [spec_l06DrawNotes.j2] at H
        replace H := Option.bind_eq_some_iff.mp H
        obtain ⟨⟨t271, t272, t273⟩, A390, H⟩ := H
        replace H : (if t271 = true then (spec_l06DrawNotes.l1 kj18 x3_18 s0_0 t272 t273) else (some (x3_18, t272, t273))) = some (r1, r2, r3) := H
        have A39 := ak_ A390
        clear A390
        by_cases c40 : t271 = true
        ·subst c40
         rw [if_pos rfl] at H
         have H' := ak_ H
         clear H
         go_wp2_with (first | ((with_reducible refine gate_callee (f := 95) rfl ?_); refine goesL_ (some 45) rfl rfl Try.func95 (by kernel_rfl) rfl #[.pointer (some ⟨g, 0, none⟩), .int .i64 40] rfl (ma2_ rfl rfl) ?_; (with_reducible refine (spec_l01Once.calls g s0_0 x1001_18 x1002_18 40 true t272 t273 w0 _ ?side1 ?side2 A39.out).mono ?_); (case side1 => exact si_); (case side2 => exact (hbi_ HB)); rintro e w41 ⟨rfl, hi, hb, hk⟩; refine ⟨_, rfl, ?_⟩; replace HO_3 := ak_ (Kd.R_mono (Kd.R_keep (IsS120.apart (show IsS120 w0 _ g s0_0 x1001_18 x1002_18 from si_) (ro_ HO_3) (by decide)) hk (fun _ h => h.2)) (fun _ h => h.1)); replace HK := ak_ (KeepBut.trans (hk_ HK) hk (.inl rfl)); replace HB := ak_ hb; replace HI0 := ak_ hi; (try clear hb); (try clear hk); (try clear hi)))
         (try simp only [Act.put, List.setIfInBounds_toArray, List.set_cons_zero, List.set_cons_succ])
         go_loopg [3] kj18 (fun kq v3 w' => ∃ (x3_4 : List (S109)) (x1001_4 : Int) (x1002_4 : Int), Aside0 (spec_l06DrawNotes.l1 kq x3_4 s0_0 x1001_4 x1002_4 = some (r1, r2, r3)) ∧ Aside0 (kq ≤ kj18) ∧ Aside0 (Kd.R k109 109 w' w.heap.size (fun _ => True) v3 x3_4) ∧ Aside0 (IsS120 w0 w' g s0_0 x1001_4 x1002_4) ∧ Aside0 (KeepBut w w' g none) ∧ Aside0 (Below w0.heap.size w0 w'))
         case atStart => exact ⟨(x3_18), (t272), (t273), H', ⟨Nat.le_refl _⟩, ⟨by (with_reducible repeat (first | apply Kd.R_alloc | apply Kd.R_drewN | apply Kd.R_drew)); exact HO_3.out⟩, ⟨si_⟩, ⟨(hk_ HK)⟩, ⟨(hbi_ HB)⟩⟩
         case round =>
          clear H'
          try clear c1
          try clear c2
          try clear p2
          try clear q2
          try clear hx2
          try clear hf2
          try clear c3
          try clear hx3
          try clear hf3
          try clear c4
          try clear c6
          try clear c6b0
          try clear p6
          try clear c9
          try clear c15
          try clear c20
          try clear c24
          try clear c24b0
          try clear c25
          try clear c25b0
          try clear c26
          try clear p26
          try clear q26
          try clear hx26
          try clear hf26
          try clear c37
          try clear hx37
          try clear hf37
          try clear c40
          try clear hx26_0
          try clear hx26_1
          try clear hx37_0
          try clear hx37_1
          try clear p2
          try clear p26
          try clear p6
          try clear q2
          try clear q26
          obtain ⟨x3_4, x1001_4, x1002_4, HA, HK4, HO_3, HI0, HK, HB⟩ := hrel
          cases gk with
          | zero => exact absurd HA.out (by simp [spec_l06DrawNotes.l1])
          | succ k4 =>
           have H := HA.out
           clear HA
           simp only [spec_l06DrawNotes.l1] at H
           replace H := Option.bind_eq_some_iff.mp H
           obtain ⟨⟨t274, t275, t276⟩, A420, H⟩ := H
           replace H : (if (x3_4.length : Int) < (wrap64 (200 + t274)) then (if x3_4.length < 8796093022208 then (spec_l06DrawNotes.l1 k4 (x3_4 ++ [(⟨90, 3⟩ : S109)]) s0_0 t275 t276) else (none)) else (some (x3_4, t275, t276))) = some (r1, r2, r3) := H
           have A42 := ak_ A420
           clear A420
           by_cases c43 : (x3_4.length : Int) < (wrap64 (200 + t274))
           ·rw [if_pos c43] at H
            have c43b0 : decide ((x3_4.length : Int) < (wrap64 (200 + t274))) = true := decide_eq_true c43
            clear c43
            by_cases c44 : x3_4.length < 8796093022208
            ·rw [if_pos c44] at H
             have LMc44 := ak_ c44
             clear c44
             obtain ⟨y277, hy277⟩ : ∃ y_ : List (S109), y_ = (x3_4 ++ [(⟨90, 3⟩ : S109)]) := ⟨_, rfl⟩
             replace H : (spec_l06DrawNotes.l1 k4 y277 s0_0 t275 t276) = some (r1, r2, r3) := by first | (rw [hy277]; with_reducible exact H) | (have H2_ := (Option.bind_some _ _).symm.trans H; rw [hy277]; with_reducible exact H2_) | (have H2_ := (Option.bind_some _ _).symm.trans H; with_reducible exact H2_) | with_reducible exact H | (rw [hy277]; exact H) | exact H
             have Ny277 := ak_ hy277
             clear hy277
             have H' := ak_ H
             clear H
             obtain ⟨Ao45, co45, eo45⟩ := Kd.R_slice HO_3.out
             subst eo45
             go_wp2_with (first | ((with_reducible refine gate_callee (f := 96) rfl ?_); refine goesL_ (some 49) rfl rfl Try.func96 (by kernel_rfl) rfl #[.pointer (some ⟨g, 0, none⟩), .int .i64 2] rfl (ma2_ rfl rfl) ?_; (with_reducible refine (spec_l01Below.calls g s0_0 x1001_4 x1002_4 2 t274 t275 t276 w0 _ ?side1 ?side2 A42.out).mono ?_); (case side1 => exact si_); (case side2 => exact (hbi_ HB)); rintro e w46 ⟨rfl, hi, hb, hk⟩; refine ⟨_, rfl, ?_⟩; replace HO_3 := ak_ (Kd.R_mono (Kd.R_keep (IsS120.apart (show IsS120 w0 _ g s0_0 x1001_4 x1002_4 from si_) (ro_ HO_3) (by decide)) hk (fun _ h => h.2)) (fun _ h => h.1)); replace HK := ak_ (KeepBut.trans (hk_ HK) hk (.inl rfl)); replace HB := ak_ hb; replace HI0 := ak_ hi; (try clear hb); (try clear hk); (try clear hi)) | ((with_reducible refine gate_builtin (b := .append) (xs := #[.tmp 52, .tmp 54]) rfl ?_); at_builtin; refine Kd.R_append k109 w.heap.size rfl (.tmp 52) (.tmp 54) 36 109 (.agg #[(.int .i64 0), (.int .i64 0)]) 16 rfl Try.underlying36 info109 rfl (by decide) (by omega) (.slice Ao45 x3_4.length co45) x3_4 (⟨90, 3⟩ : S109) [.int .i64 90, .int .i64 3] (fun _ => True) (fun _ => False) rfl rfl ?aP (fun _ hk => hk.elim) ?aF ?aO (Below.refl _ _) ?aS ?aL ?_; (case aP => exact k109_mkM _ _ _ (⟨90, 3⟩ : S109)); (case aF => exact (fun _ _ => trivial)); (case aO => exact (ro_ HO_3)); (case aS => exact (keep_size (w := w) (g := g) (row := none) (hk_ HK))); (case aL => have := LMc44.out; omega); intro v278 w47 ho hb hg hat; rw [← Ny277.out] at ho; replace HB := ak_ (below_weaken (hbi_ HB) HL.out hb); replace HI0 := ak_ (IsS120.grown (spec_l06DrawNotes.is_ HI0.out si_) hg (IsS120.own_ne HI0.out HO_3.out (by decide))); replace HK := ak_ (KeepBut.trans (hk_ HK) (KeepBut.of_grown hg g) (Kd.R_base2 HO_3.out)); have HO279 := ak_ ho; clear HO_3; clear ho hb hg hat))
             go_roundg k4
             case measure => have := HK1.out; have := HJ12.out; have := HJ18.out; have := HK4.out; omega
             case rel => exact ⟨(y277), (t275), (t276), H', ⟨by have := HK1.out; have := HJ12.out; have := HJ18.out; have := HK4.out; omega⟩, ⟨by (with_reducible repeat (first | apply Kd.R_alloc | apply Kd.R_drewN | apply Kd.R_drew)); exact HO279.out⟩, ⟨si_⟩, ⟨(hk_ HK)⟩, ⟨(hbi_ HB)⟩⟩
            ·rw [if_neg c44] at H
             exact absurd H (by simp)
           ·rw [if_neg c43] at H
            have c43b0 : decide ((x3_4.length : Int) < (wrap64 (200 + t274))) = false := decide_eq_false c43
            clear c43
            simp only [Option.some.injEq, Prod.mk.injEq] at H
            obtain ⟨rfl, rfl, rfl⟩ := H
            obtain ⟨Ao48, co48, eo48⟩ := Kd.R_slice HO_3.out
            subst eo48
            go_wp2_with (first | ((with_reducible refine gate_callee (f := 96) rfl ?_); refine goesL_ (some 49) rfl rfl Try.func96 (by kernel_rfl) rfl #[.pointer (some ⟨g, 0, none⟩), .int .i64 2] rfl (ma2_ rfl rfl) ?_; (with_reducible refine (spec_l01Below.calls g s0_0 x1001_4 x1002_4 2 t274 t275 t276 w0 _ ?side1 ?side2 A42.out).mono ?_); (case side1 => exact si_); (case side2 => exact (hbi_ HB)); rintro e w49 ⟨rfl, hi, hb, hk⟩; refine ⟨_, rfl, ?_⟩; replace HO_3 := ak_ (Kd.R_mono (Kd.R_keep (IsS120.apart (show IsS120 w0 _ g s0_0 x1001_4 x1002_4 from si_) (ro_ HO_3) (by decide)) hk (fun _ h => h.2)) (fun _ h => h.1)); replace HK := ak_ (KeepBut.trans (hk_ HK) hk (.inl rfl)); replace HB := ak_ hb; replace HI0 := ak_ hi; (try clear hb); (try clear hk); (try clear hi)))
            go_ret
            exact ⟨_, ew_, by (with_reducible repeat (first | apply Kd.R_alloc | apply Kd.R_drewN | apply Kd.R_drew)); exact HO_3.out, si_, (hbi_ HB), (hk_ HK)⟩
        ·replace c40 := Bool.eq_false_iff.mpr c40
         subst c40
         rw [if_neg (show ¬ (false = true) by decide)] at H
         simp only [Option.some.injEq, Prod.mk.injEq] at H
         obtain ⟨rfl, rfl, rfl⟩ := H
         go_wp2_with (first | ((with_reducible refine gate_callee (f := 95) rfl ?_); refine goesL_ (some 45) rfl rfl Try.func95 (by kernel_rfl) rfl #[.pointer (some ⟨g, 0, none⟩), .int .i64 40] rfl (ma2_ rfl rfl) ?_; (with_reducible refine (spec_l01Once.calls g s0_0 x1001_18 x1002_18 40 false t272 t273 w0 _ ?side1 ?side2 A39.out).mono ?_); (case side1 => exact si_); (case side2 => exact (hbi_ HB)); rintro e w50 ⟨rfl, hi, hb, hk⟩; refine ⟨_, rfl, ?_⟩; replace HO_3 := ak_ (Kd.R_mono (Kd.R_keep (IsS120.apart (show IsS120 w0 _ g s0_0 x1001_18 x1002_18 from si_) (ro_ HO_3) (by decide)) hk (fun _ h => h.2)) (fun _ h => h.1)); replace HK := ak_ (KeepBut.trans (hk_ HK) hk (.inl rfl)); replace HB := ak_ hb; replace HI0 := ak_ hi; (try clear hb); (try clear hk); (try clear hi)))
         go_ret
         exact ⟨_, ew_, by (with_reducible repeat (first | apply Kd.R_alloc | apply Kd.R_drewN | apply Kd.R_drew)); exact HO_3.out, si_, (hbi_ HB), (hk_ HK)⟩

end Go.Proofs.Ytfjjlipfjddaiaa.Bo
