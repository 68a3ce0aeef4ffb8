-- PRINTED by print.py (a twelfth state) out of the translation. Not trusted: Lean checks it.
import Derived.Test.YtblfoelddakelaaH0
import Derived.Test.YtblfoelddakelaaH26
namespace Go.Proofs.Ytblfoelddakelaa.H
open Go.RowKit Go.Proofs.YtblfoelddakelaaW.PrintWords Go.Proofs.YtblfoelddakelaaW.PrintLast Go.Proofs.YtblfoelddakelaaW.PrintMore
attribute [local go_sem] max2_int min2_int max_two min_two max_three min_three max_four min_four   -- for this text's walks alone
set_option linter.unusedVariables false
set_option linter.unusedSimpArgs false

/-! ### spec_l08Setup: function 50 -/
def spec_l08Setup.l0 : Nat → Int → Int → Int → Int → List (S49) → List (S71) → Int → Int → List (S71) → Int → Int → Int → Int → Int → Int → Int → List (S49) → List (S71) → Int → Int → List (S71) → Int → Int → Int → Int → Option (Int × Int × Int × (List (S49)) × (List (S71)) × Int × Int × (List (S71)) × Int × Int × Int × Int)
  | 0, _, _, _, _, _, _, _, _, _, _, _, _, _, _, _, _, _, _, _, _, _, _, _, _, _ => none
  | k + 1, x4, x264000, x264001, x264002, x264003, x264004, x264005, x264006, x264007, x264008, x264009, x264010, x264011, x276000, x276001, x276002, x276003, x276004, x276005, x276006, x276007, x276008, x276009, x276010, x276011 => if x4 < (x264003.length : Int) then (if 0 ≤ x4 then (if x276003.length < 4398046511104 then (spec_l08Setup.l0 k (wrap64 (x4 + 1)) x264000 x264001 x264002 x264003 x264004 x264005 x264006 x264007 x264008 x264009 x264010 x264011 x276000 x276001 x276002 (x276003 ++ [(⟨(rd_T49 x264003 x4).f0, (rd_T49 x264003 x4).f1, (rd_T49 x264003 x4).f2⟩ : S49)]) x276004 x276005 x276006 x276007 x276008 x276009 x276010 x276011) else (none)) else (none)) else (some (x276000, x276001, x276002, x276003, x276004, x276005, x276006, x276007, x276008, x276009, x276010, x276011))
def spec_l08Setup.f (k : Nat) (a0_0 : Int) (a0_1 : Int) (a0_2 : Int) (l0_3 : List (S49)) (l0_4 : List (S71)) (a0_5 : Int) (a0_6 : Int) (l0_7 : List (S71)) (a0_8 : Int) (a0_9 : Int) (a0_10 : Int) (a0_11 : Int) : Option (Int × Int × Int × (List (S49)) × (List (S71)) × Int × Int × (List (S71)) × Int × Int × Int × Int) := (spec_l08Side.f k l0_4 a0_5 a0_6).bind fun bt265 => ((spec_l08Side.f k l0_7 a0_8 a0_9).bind fun bt270 => (spec_l08Setup.l0 k 0 a0_0 a0_1 a0_2 l0_3 l0_4 a0_5 a0_6 l0_7 a0_8 a0_9 a0_10 a0_11 a0_0 a0_1 a0_2 ([] : List (S49)) bt265.1 bt265.2.1 bt265.2.2 bt270.1 bt270.2.1 bt270.2.2 a0_10 a0_11))
theorem spec_l08Setup.mono_l : ∀ k, (∀ y0 y1 y2 y3 y4 y5 y6 y7 y8 y9 y10 y11 y12 y13 y14 y15 y16 y17 y18 y19 y20 y21 y22 y23 y24, LeO (spec_l08Setup.l0 k y0 y1 y2 y3 y4 y5 y6 y7 y8 y9 y10 y11 y12 y13 y14 y15 y16 y17 y18 y19 y20 y21 y22 y23 y24) (spec_l08Setup.l0 (k + 1) y0 y1 y2 y3 y4 y5 y6 y7 y8 y9 y10 y11 y12 y13 y14 y15 y16 y17 y18 y19 y20 y21 y22 y23 y24))
  | 0 => fun _ _ _ _ _ _ _ _ _ _ _ _ _ _ _ _ _ _ _ _ _ _ _ _ _ r h => by simp [spec_l08Setup.l0] at h
  | k + 1 => by
    have ih0 := spec_l08Setup.mono_l k
    · intro y0 y1 y2 y3 y4 y5 y6 y7 y8 y9 y10 y11 y12 y13 y14 y15 y16 y17 y18 y19 y20 y21 y22 y23 y24
      unfold spec_l08Setup.l0
      repeat' with_reducible first | exact ih0 _ _ _ _ _ _ _ _ _ _ _ _ _ _ _ _ _ _ _ _ _ _ _ _ _ | exact spec_l08Side.mono _ _ _ _ | exact LeO.refl _ | exact LeO.none _ | refine LeO.ite ?_ ?_ | refine LeO.bind ?_ (fun _ => ?_)
theorem spec_l08Setup.mono : ∀ a0 a1 a2 a3 a4 a5 a6 a7 a8 a9 a10 a11 k, LeO (spec_l08Setup.f k a0 a1 a2 a3 a4 a5 a6 a7 a8 a9 a10 a11) (spec_l08Setup.f (k + 1) a0 a1 a2 a3 a4 a5 a6 a7 a8 a9 a10 a11) := by
  intro a0 a1 a2 a3 a4 a5 a6 a7 a8 a9 a10 a11 k
  have ih0 := spec_l08Setup.mono_l k
  unfold spec_l08Setup.f
  repeat' with_reducible first | exact ih0 _ _ _ _ _ _ _ _ _ _ _ _ _ _ _ _ _ _ _ _ _ _ _ _ _ | exact spec_l08Side.mono _ _ _ _ | exact LeO.refl _ | exact LeO.none _ | refine LeO.ite ?_ ?_ | refine LeO.bind ?_ (fun _ => ?_)
def spec_l08Setup.T1 : Bool × List (List Nat × List Nat) := (true, [([], []), ([0], [0]), ([], []), ([2], [2]), ([3], [3]), ([4], [4]), ([], []), ([6], [6]), ([7], [7]), ([8, 5], [8]), ([], []), ([10], [10]), ([11], [11]), ([], []), ([13], [13]), ([14], [14]), ([5, 9, 12, 15], [5, 9, 12, 15]), ([1, 16], [1, 16]), ([], []), ([18, 17, 9, 0, 1, 2, 3, 4, 5, 6, 7, 8, 9, 10, 11, 12, 13, 14, 15, 16, 17, 18], [17, 18])])
def spec_l08Setup.B1 : List Nat := [0, 1, 0, 4, 12, 28, 0, 64, 192, 508, 0, 1024, 3072, 0, 8192, 24576, 65532, 131071, 0, 524287]
theorem spec_l08Setup.tab1 : rtab .any (opsOf Try.f50 1) = spec_l08Setup.T1 := by kernel_rfl
theorem spec_l08Setup.bits1 : waitsOk spec_l08Setup.T1.2 spec_l08Setup.B1 = true := by kernel_rfl
def spec_l08Setup.T5 : Bool × List (List Nat × List Nat) := (true, [([], []), ([0], [0]), ([], []), ([2], [2]), ([], []), ([3, 4], [3, 4]), ([5], [5]), ([6], [6]), ([1, 7], [1, 7]), ([0, 1, 2, 3, 4, 5, 6, 7, 8], []), ([9, 8, 8, 0, 1, 2, 3, 4, 5, 6, 7, 8], [8, 9])])
def spec_l08Setup.B5 : List Nat := [0, 1, 0, 4, 0, 28, 60, 124, 255, 511, 1023]
theorem spec_l08Setup.tab5 : rtab .any (opsOf Try.f50 5) = spec_l08Setup.T5 := by kernel_rfl
theorem spec_l08Setup.bits5 : waitsOk spec_l08Setup.T5.2 spec_l08Setup.B5 = true := by kernel_rfl
abbrev spec_l08Setup.d0 : Array Bool := #[true, true, true, true, true, true, true, true, true, false, true, true, true, true, true, true, false, false, true, false]
abbrev spec_l08Setup.d1 : Array Bool := #[true, true, true, true, true, true, true, true, true, true, true, true, true, true, true, true, false, false, true, false]
abbrev spec_l08Setup.d2 : Array Bool := #[true, true, true, true, true, true, true, true, true, true, true, true, true, true, true, true, true, false, true, false]
abbrev spec_l08Setup.d3 : Array Bool := #[true, true, true, true, true, true, true, true, true, true, true, true, true, true, true, true, true, true, true, false]
set_option maxHeartbeats 8000000 in
set_option maxRecDepth 100000 in
theorem spec_l08Setup.calls (k : Nat) (a0_0 : Int) (a0_1 : Int) (a0_2 : Int) (A0_3 : Option Addr) (c0_3 : Nat) (l0_3 : List (S49)) (A0_4 : Option Addr) (c0_4 : Nat) (l0_4 : List (S71)) (a0_5 : Int) (a0_6 : Int) (A0_7 : Option Addr) (c0_7 : Nat) (l0_7 : List (S71)) (a0_8 : Int) (a0_9 : Int) (a0_10 : Int) (a0_11 : Int) (r1 : Int) (r2 : Int) (r3 : Int) (r4 : List (S49)) (r5 : List (S71)) (r6 : Int) (r7 : Int) (r8 : List (S71)) (r9 : Int) (r10 : Int) (r11 : Int) (r12 : Int) (w : World) (hr0_3 : Kd.C k49 w A0_3 l0_3.length l0_3) (hc0_3 : l0_3.length ≤ c0_3) (hr0_4 : Kd.C k71 w A0_4 l0_4.length l0_4) (hc0_4 : l0_4.length ≤ c0_4) (hr0_7 : Kd.C k71 w A0_7 l0_7.length l0_7) (hc0_7 : l0_7.length ≤ c0_7) (h : spec_l08Setup.f k a0_0 a0_1 a0_2 l0_3 l0_4 a0_5 a0_6 l0_7 a0_8 a0_9 a0_10 a0_11 = some (r1, r2, r3, r4, r5, r6, r7, r8, r9, r10, r11, r12)) :
  Calls Try.prog 50 #[.agg #[.int .i64 a0_0, .int .i64 a0_1, .int .i64 a0_2, .slice A0_3 l0_3.length c0_3, .slice A0_4 l0_4.length c0_4, .int .i64 a0_5, .int .i64 a0_6, .slice A0_7 l0_7.length c0_7, .int .i64 a0_8, .int .i64 a0_9, .int .i64 a0_10, .int .i64 a0_11]] w fun e w' => ∃ v3_ v4_ v7_ : Value, e = .returned (.agg #[.int .i64 r1, .int .i64 r2, .int .i64 r3, v3_, v4_, .int .i64 r6, .int .i64 r7, v7_, .int .i64 r9, .int .i64 r10, .int .i64 r11, .int .i64 r12]) ∧ Kd.R k49 49 w' w.heap.size (fun _ => True) v3_ r4 ∧ Kd.R k71 71 w' w.heap.size (fun k_ => some k_ ≠ (v7_ : Value).ownBlock) v4_ r5 ∧ Kd.R k71 71 w' w.heap.size (fun k_ => some k_ ≠ (v4_ : Value).ownBlock) v7_ r8 ∧ Below w.heap.size w w' := by
 have hu33 := Try.underlying33
 have hu25 := Try.underlying25
 have hu29 := Try.underlying29
 have hu31 := Try.underlying31
 have hu49 := Try.underlying49
 have HR0_3 := ak_ hr0_3
 have HC0_3 := ak_ hc0_3
 clear hr0_3 hc0_3
 have HR0_4 := ak_ hr0_4
 have HC0_4 := ak_ hc0_4
 clear hr0_4 hc0_4
 have HR0_7 := ak_ hr0_7
 have HC0_7 := ak_ hc0_7
 clear hr0_7 hc0_7
 have HB := ak_ (Below.refl w.heap.size w)
 have H : ((spec_l08Side.f k l0_4 a0_5 a0_6).bind fun bt265 => ((spec_l08Side.f k l0_7 a0_8 a0_9).bind fun bt270 => (spec_l08Setup.l0 k 0 a0_0 a0_1 a0_2 l0_3 l0_4 a0_5 a0_6 l0_7 a0_8 a0_9 a0_10 a0_11 a0_0 a0_1 a0_2 ([] : List (S49)) bt265.1 bt265.2.1 bt265.2.2 bt270.1 bt270.2.1 bt270.2.2 a0_10 a0_11))) = some (r1, r2, r3, r4, r5, r6, r7, r8, r9, r10, r11, r12) := h
 clear h
 replace H := Option.bind_eq_some_iff.mp H
 obtain ⟨⟨t265, t268, t269⟩, A20, H⟩ := H
 replace H : ((spec_l08Side.f k l0_7 a0_8 a0_9).bind fun bt270 => (spec_l08Setup.l0 k 0 a0_0 a0_1 a0_2 l0_3 l0_4 a0_5 a0_6 l0_7 a0_8 a0_9 a0_10 a0_11 a0_0 a0_1 a0_2 ([] : List (S49)) t265 t268 t269 bt270.1 bt270.2.1 bt270.2.2 a0_10 a0_11)) = some (r1, r2, r3, r4, r5, r6, r7, r8, r9, r10, r11, r12) := H
 have A2 := ak_ A20
 clear A20
 replace H := Option.bind_eq_some_iff.mp H
 obtain ⟨⟨t270, t273, t274⟩, A30, H⟩ := H
 replace H : (spec_l08Setup.l0 k 0 a0_0 a0_1 a0_2 l0_3 l0_4 a0_5 a0_6 l0_7 a0_8 a0_9 a0_10 a0_11 a0_0 a0_1 a0_2 ([] : List (S49)) t265 t268 t269 t270 t273 t274 a0_10 a0_11) = some (r1, r2, r3, r4, r5, r6, r7, r8, r9, r10, r11, r12) := H
 have A3 := ak_ A30
 clear A30
 have H' := ak_ H
 clear H
 go_enter Try.func50, Try.ntmps50
 try go_wp2_with (first | ((with_reducible refine gate_dst (N := 1) rfl ?_); refine be_ (N := 1) (cs := #[.int .i64 a0_0, .int .i64 a0_1, .int .i64 a0_2, .slice A0_3 l0_3.length c0_3, .slice A0_4 l0_4.length c0_4, .int .i64 a0_5, .int .i64 a0_6, .slice A0_7 l0_7.length c0_7, .int .i64 a0_8, .int .i64 a0_9, .int .i64 a0_10, .int .i64 a0_11]) (t := 33) ?_; intro gb263 hg w4 hbox hb; have BK263 := ak_ hbox; have GW263 := ak_ ((gs_ hg : w.heap.size ≤ gb263)); have GE263 := ak_ ((gs_ hg : w.heap.size ≤ gb263)); replace HB := ak_ (below_step hb_ hb); clear hb hbox hg) | ((with_reducible refine gate_dst (N := 2) rfl ?_); refine be_ (N := 2) (cs := #[.int .i64 0, .int .i64 0, .int .i64 0, .slice none 0 0, .slice none 0 0, .int .i64 0, .int .i64 0, .slice none 0 0, .int .i64 0, .int .i64 0, .int .i64 0, .int .i64 0]) (t := 33) ?_; intro gb264 hg w5 hbox hb; have BK264 := ak_ hbox; have GW264 := ak_ ((gs_ hg : w.heap.size ≤ gb264)); have GE264 := ak_ ((gs_ hg : w.heap.size ≤ gb264)); replace HB := ak_ (below_step hb_ hb); have NB263_264 := ak_ (nl_ hg (bk_ BK263)); have NB264_263 := ak_ (ng_ hg (bk_ BK263)); replace BK263 := ak_ (blk_below (bk_ BK263) hb); clear hb hbox hg))
 replace BK263 := ak_ (blk_drew BK263.out)
 replace BK264 := ak_ (blk_drew BK264.out)
 replace HB := ak_ (below_drew1 HB.out)
 refine start_ (n := 20) (S := fun w' => w'.cell? ⟨gb263, 0, none⟩ = some (.int .i64 a0_0) ∧ w'.cell? ⟨gb263, 1, none⟩ = some (.int .i64 a0_1) ∧ w'.cell? ⟨gb263, 2, none⟩ = some (.int .i64 a0_2) ∧ w'.cell? ⟨gb263, 3, none⟩ = some (.slice A0_3 l0_3.length c0_3) ∧ w'.cell? ⟨gb263, 4, none⟩ = some (.slice A0_4 l0_4.length c0_4) ∧ w'.cell? ⟨gb263, 5, none⟩ = some (.int .i64 a0_5) ∧ w'.cell? ⟨gb263, 6, none⟩ = some (.int .i64 a0_6) ∧ w'.cell? ⟨gb263, 7, none⟩ = some (.slice A0_7 l0_7.length c0_7) ∧ w'.cell? ⟨gb263, 8, none⟩ = some (.int .i64 a0_8) ∧ w'.cell? ⟨gb263, 9, none⟩ = some (.int .i64 a0_9) ∧ w'.cell? ⟨gb263, 10, none⟩ = some (.int .i64 a0_10) ∧ w'.cell? ⟨gb263, 11, none⟩ = some (.int .i64 a0_11)) (ds := []) #[false, false, false, false, false, false, false, false, false, false, false, false, false, false, false, false, false, false, false, false] (by kernel_rfl) rfl rfl ⟨(blk_cell BK263.out 0).trans rfl, (blk_cell BK263.out 1).trans rfl, (blk_cell BK263.out 2).trans rfl, (blk_cell BK263.out 3).trans rfl, (blk_cell BK263.out 4).trans rfl, (blk_cell BK263.out 5).trans rfl, (blk_cell BK263.out 6).trans rfl, (blk_cell BK263.out 7).trans rfl, (blk_cell BK263.out 8).trans rfl, (blk_cell BK263.out 9).trans rfl, (blk_cell BK263.out 10).trans rfl, (blk_cell BK263.out 11).trans rfl⟩ (fun hHeld => ?_); refine with_tabW spec_l08Setup.tab1 spec_l08Setup.bits1 (fun HT_ HW_ => ?_)
 generalize w5.drew = w6 at BK263 BK264 HB hHeld ⊢
 refine p1_ (i := 0) (N := some 5) #[true, false, false, false, false, false, false, false, false, false, false, false, false, false, false, false, false, false, false, false] (any_of HT_.out (by kernel_rfl)) ?_
 refine p1_ (i := 2) (N := some 7) #[true, false, true, false, false, false, false, false, false, false, false, false, false, false, false, false, false, false, false, false] (any_of HT_.out (by kernel_rfl)) ?_
 refine p1_ (i := 3) (N := some 8) #[true, false, true, true, false, false, false, false, false, false, false, false, false, false, false, false, false, false, false, false] (any_of HT_.out (by kernel_rfl)) ?_
 refine p1_ (i := 6) (N := some 11) #[true, false, true, true, false, false, true, false, false, false, false, false, false, false, false, false, false, false, false, false] (any_of HT_.out (by kernel_rfl)) ?_
 refine p1_ (i := 7) (N := some 12) #[true, false, true, true, false, false, true, true, false, false, false, false, false, false, false, false, false, false, false, false] (any_of HT_.out (by kernel_rfl)) ?_
 refine p1_ (i := 10) (N := some 15) #[true, false, true, true, false, false, true, true, false, false, true, false, false, false, false, false, false, false, false, false] (any_of HT_.out (by kernel_rfl)) ?_
 refine p1_ (i := 11) (N := some 16) #[true, false, true, true, false, false, true, true, false, false, true, true, false, false, false, false, false, false, false, false] (any_of HT_.out (by kernel_rfl)) ?_
 refine p1_ (i := 13) (N := some 18) #[true, false, true, true, false, false, true, true, false, false, true, true, false, true, false, false, false, false, false, false] (any_of HT_.out (by kernel_rfl)) ?_
 refine p1_ (i := 14) (N := some 19) #[true, false, true, true, false, false, true, true, false, false, true, true, false, true, true, false, false, false, false, false] (any_of HT_.out (by kernel_rfl)) ?_
 refine take_ (i := 1) (N := some 6) (v := ?_) (a' := ?_) #[true, true, true, true, false, false, true, true, false, false, true, true, false, true, true, false, false, false, false, false] rfl rfl (take_ofW HT_.out HW_.out (by kernel_rfl)) (fun _ _ _ h => h) (Or.inl ⟨by rfl, ?_⟩) hHeld ?_ ?_; rotate_left; (rintro w' ⟨s0, s1, s2, s3, s4, s5, s6, s7, s8, s9, s10, s11⟩; go_simp; with_reducible rfl); rotate_left; (simp only [Act.put, List.setIfInBounds_toArray, List.set_cons_zero, List.set_cons_succ, i64_w, i32_w]; rfl)
 refine take_ (i := 4) (N := some 9) (v := ?_) (a' := ?_) #[true, true, true, true, true, false, true, true, false, false, true, true, false, true, true, false, false, false, false, false] rfl rfl (take_ofW HT_.out HW_.out (by kernel_rfl)) (fun _ _ _ h => h) (Or.inl ⟨by rfl, ?_⟩) hHeld ?_ ?_; rotate_left; (rintro w' ⟨s0, s1, s2, s3, s4, s5, s6, s7, s8, s9, s10, s11⟩; go_simp; with_reducible rfl); rotate_left; (simp only [Act.put, List.setIfInBounds_toArray, List.set_cons_zero, List.set_cons_succ, i64_w, i32_w]; rfl)
 refine take_ (i := 8) (N := some 13) (v := ?_) (a' := ?_) #[true, true, true, true, true, false, true, true, true, false, true, true, false, true, true, false, false, false, false, false] rfl rfl (take_ofW HT_.out HW_.out (by kernel_rfl)) (fun _ _ _ h => h) (Or.inl ⟨by rfl, ?_⟩) hHeld ?_ ?_; rotate_left; (rintro w' ⟨s0, s1, s2, s3, s4, s5, s6, s7, s8, s9, s10, s11⟩; go_simp; with_reducible rfl); rotate_left; (simp only [Act.put, List.setIfInBounds_toArray, List.set_cons_zero, List.set_cons_succ, i64_w, i32_w]; rfl)
 refine take_ (i := 12) (N := some 17) (v := ?_) (a' := ?_) #[true, true, true, true, true, false, true, true, true, false, true, true, true, true, true, false, false, false, false, false] rfl rfl (take_ofW HT_.out HW_.out (by kernel_rfl)) (fun _ _ _ h => h) (Or.inl ⟨by rfl, ?_⟩) hHeld ?_ ?_; rotate_left; (rintro w' ⟨s0, s1, s2, s3, s4, s5, s6, s7, s8, s9, s10, s11⟩; go_simp; with_reducible rfl); rotate_left; (simp only [Act.put, List.setIfInBounds_toArray, List.set_cons_zero, List.set_cons_succ, i64_w, i32_w]; rfl)
 refine take_ (i := 15) (N := some 20) (v := ?_) (a' := ?_) #[true, true, true, true, true, false, true, true, true, false, true, true, true, true, true, true, false, false, false, false] rfl rfl (take_ofW HT_.out HW_.out (by kernel_rfl)) (fun _ _ _ h => h) (Or.inl ⟨by rfl, ?_⟩) hHeld ?_ ?_; rotate_left; (rintro w' ⟨s0, s1, s2, s3, s4, s5, s6, s7, s8, s9, s10, s11⟩; go_simp; with_reducible rfl); rotate_left; (simp only [Act.put, List.setIfInBounds_toArray, List.set_cons_zero, List.set_cons_succ, i64_w, i32_w]; rfl)
 refine join_ (σ := Value × Value × Nat) 1 spec_l08Setup.d3 (fun s_ => [(10, .agg #[s_.1, .int .i64 t268, .int .i64 t269]), (14, .agg #[s_.2.1, .int .i64 t273, .int .i64 t274]), (3, .pointer (some ⟨s_.2.2, 0, none⟩)), (21, .agg #[s_.1, .int .i64 t268, .int .i64 t269, s_.2.1, .int .i64 t273, .int .i64 t274, .int .i64 a0_10, .int .i64 a0_11]), (22, .agg #[.int .i64 a0_0, .int .i64 a0_1, .int .i64 a0_2, .slice none 0 0, s_.1, .int .i64 t268, .int .i64 t269, s_.2.1, .int .i64 t273, .int .i64 t274, .int .i64 a0_10, .int .i64 a0_11])]) (fun s_ w' => (w'.cell? ⟨gb263, 0, none⟩ = some (.int .i64 a0_0) ∧ w'.cell? ⟨gb263, 1, none⟩ = some (.int .i64 a0_1) ∧ w'.cell? ⟨gb263, 2, none⟩ = some (.int .i64 a0_2) ∧ w'.cell? ⟨gb263, 3, none⟩ = some (.slice A0_3 l0_3.length c0_3) ∧ w'.cell? ⟨gb263, 4, none⟩ = some (.slice A0_4 l0_4.length c0_4) ∧ w'.cell? ⟨gb263, 5, none⟩ = some (.int .i64 a0_5) ∧ w'.cell? ⟨gb263, 6, none⟩ = some (.int .i64 a0_6) ∧ w'.cell? ⟨gb263, 7, none⟩ = some (.slice A0_7 l0_7.length c0_7) ∧ w'.cell? ⟨gb263, 8, none⟩ = some (.int .i64 a0_8) ∧ w'.cell? ⟨gb263, 9, none⟩ = some (.int .i64 a0_9) ∧ w'.cell? ⟨gb263, 10, none⟩ = some (.int .i64 a0_10) ∧ w'.cell? ⟨gb263, 11, none⟩ = some (.int .i64 a0_11)) ∧ (Kd.R k71 71 w' w.heap.size (fun k_ => some k_ ≠ (s_.2.1 : Value).ownBlock) s_.1 t265) ∧ (Kd.R k71 71 w' w.heap.size (fun k_ => some k_ ≠ (s_.1 : Value).ownBlock) s_.2.1 t270) ∧ (w'.heap[gb263]? = some (.cells #[.int .i64 a0_0, .int .i64 a0_1, .int .i64 a0_2, .slice A0_3 l0_3.length c0_3, .slice A0_4 l0_4.length c0_4, .int .i64 a0_5, .int .i64 a0_6, .slice A0_7 l0_7.length c0_7, .int .i64 a0_8, .int .i64 a0_9, .int .i64 a0_10, .int .i64 a0_11] 33 (0, 0))) ∧ (w'.heap[gb264]? = some (.cells #[.int .i64 0, .int .i64 0, .int .i64 0, .slice none 0 0, .slice none 0 0, .int .i64 0, .int .i64 0, .slice none 0 0, .int .i64 0, .int .i64 0, .int .i64 0, .int .i64 0] 33 (0, 0))) ∧ (w'.heap[s_.2.2]? = some (.cells #[.int .i64 0, .int .i64 0, .int .i64 0, .slice none 0 0, .slice none 0 0, .int .i64 0, .int .i64 0, .slice none 0 0, .int .i64 0, .int .i64 0, .int .i64 0, .int .i64 0] 33 (0, 0))) ∧ (w.heap.size ≤ s_.2.2) ∧ (w.heap.size ≤ s_.2.2) ∧ (gb263 ≠ s_.2.2) ∧ (s_.2.2 ≠ gb263) ∧ (gb264 ≠ s_.2.2) ∧ (s_.2.2 ≠ gb264) ∧ (Below w.heap.size w w')) ?_ ?_
 rotate_left
 ·intro hCont
  refine two_ (i := 5) (j := 18) (Ni := some 10) (Nj := some 3) #[true, true, true, true, true, true, true, true, true, false, true, true, true, true, true, true, false, false, false, false] #[true, true, true, true, true, false, true, true, true, false, true, true, true, true, true, true, false, false, true, false] rfl rfl rfl rfl (two_of HT_.out (by kernel_rfl)) (by decide) (by decide) (fun K hK => ?_) (fun K hK => ?_)
  ·skip
   refine goes_ Try.func78 (by kernel_rfl) rfl #[.agg #[.slice A0_4 l0_4.length c0_4, .int .i64 a0_5, .int .i64 a0_6]] (by rfl) rfl rfl (ma1_ rfl) ?_
   with_reducible refine (spec_l08Side.calls k _ _ l0_4 a0_5 a0_6 t265 t268 t269 _ ?side1 ?side2 A2.out).mono ?_
   (case side1 => exact kc_ HR0_4)
   (case side2 => exact HC0_4.out)
   rintro e w7 ⟨v266, rfl, ho0, hb⟩
   refine ⟨_, rfl, ?_⟩
   have HO267 := ak_ (Kd.R_lower ho0 (below_size hb_))
   replace BK263 := ak_ (blk_below (bk_ BK263) hb)
   replace BK264 := ak_ (blk_below (bk_ BK264) hb)
   replace HB := ak_ (below_step hb_ hb)
   (try clear hb)
   (try clear hb2)
   (try clear hk)
   (try clear hi)
   (try clear ho0)
   refine hK.out _ _ ⟨(blk_cell BK263.out 0).trans rfl, (blk_cell BK263.out 1).trans rfl, (blk_cell BK263.out 2).trans rfl, (blk_cell BK263.out 3).trans rfl, (blk_cell BK263.out 4).trans rfl, (blk_cell BK263.out 5).trans rfl, (blk_cell BK263.out 6).trans rfl, (blk_cell BK263.out 7).trans rfl, (blk_cell BK263.out 8).trans rfl, (blk_cell BK263.out 9).trans rfl, (blk_cell BK263.out 10).trans rfl, (blk_cell BK263.out 11).trans rfl⟩ (fun hHeld => ?_)
   clear hK K
   refine norm_ (a' := ?_) ?_ ?_
   rotate_left
   ·show Act.put _ (some 10) _ = _
    simp only [Act.put, List.setIfInBounds_toArray, List.set_cons_zero, List.set_cons_succ, i64_w, i32_w]
    rfl
   refine two_ (i := 9) (j := 18) (Ni := some 14) (Nj := some 3) #[true, true, true, true, true, true, true, true, true, true, true, true, true, true, true, true, false, false, false, false] spec_l08Setup.d0 rfl rfl rfl rfl (two_of HT_.out (by kernel_rfl)) (by decide) (by decide) (fun K hK => ?_) (fun K hK => ?_)
   ·skip
    refine goes_ Try.func78 (by kernel_rfl) rfl #[.agg #[.slice A0_7 l0_7.length c0_7, .int .i64 a0_8, .int .i64 a0_9]] (by rfl) rfl rfl (ma1_ rfl) ?_
    with_reducible refine (spec_l08Side.calls k _ _ l0_7 a0_8 a0_9 t270 t273 t274 _ ?side1 ?side2 A3.out).mono ?_
    (case side1 => exact kc_ HR0_7)
    (case side2 => exact HC0_7.out)
    rintro e w8 ⟨v271, rfl, ho0, hb⟩
    refine ⟨_, rfl, ?_⟩
    have HO272 := ak_ (Kd.R_lower (Kd.R_new' ho0 (Kd.R_lt (ro_ HO267))) (below_size hb_))
    replace HO267 := ak_ (Kd.R_elder' (ro_ HO267) (Kd.R_base ho0) hb)
    replace BK263 := ak_ (blk_below (bk_ BK263) hb)
    replace BK264 := ak_ (blk_below (bk_ BK264) hb)
    replace HB := ak_ (below_step hb_ hb)
    (try clear hb)
    (try clear hb2)
    (try clear hk)
    (try clear hi)
    (try clear ho0)
    obtain ⟨Ao9, co9, eo9⟩ := Kd.R_slice HO272.out
    (first | subst eo9 | (injection eo9 with f1_ f2_ f3_; have f4_ := f1_.symm; have f5_ := f3_.symm; clear f1_ f2_ f3_; subst f4_; subst f5_))
    obtain ⟨Ao10, co10, eo10⟩ := Kd.R_slice HO267.out
    (first | subst eo10 | (injection eo10 with f1_ f2_ f3_; have f4_ := f1_.symm; have f5_ := f3_.symm; clear f1_ f2_ f3_; subst f4_; subst f5_))
    refine hK.out _ _ ⟨(blk_cell BK263.out 0).trans rfl, (blk_cell BK263.out 1).trans rfl, (blk_cell BK263.out 2).trans rfl, (blk_cell BK263.out 3).trans rfl, (blk_cell BK263.out 4).trans rfl, (blk_cell BK263.out 5).trans rfl, (blk_cell BK263.out 6).trans rfl, (blk_cell BK263.out 7).trans rfl, (blk_cell BK263.out 8).trans rfl, (blk_cell BK263.out 9).trans rfl, (blk_cell BK263.out 10).trans rfl, (blk_cell BK263.out 11).trans rfl⟩ (fun hHeld => ?_)
    clear hK K
    refine norm_ (a' := ?_) ?_ ?_
    rotate_left
    ·show Act.put _ (some 14) _ = _
     simp only [Act.put, List.setIfInBounds_toArray, List.set_cons_zero, List.set_cons_succ, i64_w, i32_w]
     rfl
    refine p1_ (i := 16) (N := some 21) #[true, true, true, true, true, true, true, true, true, true, true, true, true, true, true, true, true, false, false, false] (any_of HT_.out (by kernel_rfl)) ?_
    refine p1_ (i := 17) (N := some 22) #[true, true, true, true, true, true, true, true, true, true, true, true, true, true, true, true, true, true, false, false] (any_of HT_.out (by kernel_rfl)) ?_
    refine one_ (i := 18) (N := some 3) spec_l08Setup.d3 rfl rfl (one_of HT_.out (by kernel_rfl)) (by decide) (fun K hK => ?_)
    refine box_step ?hg (N := 3) ?hd (cs := #[.int .i64 0, .int .i64 0, .int .i64 0, .slice none 0 0, .slice none 0 0, .int .i64 0, .int .i64 0, .slice none 0 0, .int .i64 0, .int .i64 0, .int .i64 0, .int .i64 0]) (t := 33) ?hr ?_; (case hd => rfl); (case hg => rfl); (case hr => first | (go_simp; done) | (go_simp; rfl))
    intro gb275 hg w11 hbox hb
    replace HO267 := ak_ (Kd.R_below (ro_ HO267) hb)
    replace HO272 := ak_ (Kd.R_below (ro_ HO272) hb)
    have BK275 := ak_ hbox
    have GW275 := ak_ ((gs_ hg : w.heap.size ≤ gb275))
    have GE275 := ak_ ((gs_ hg : w.heap.size ≤ gb275))
    replace HB := ak_ (below_step hb_ hb)
    have NB263_275 := ak_ (nl_ hg (bk_ BK263))
    have NB275_263 := ak_ (ng_ hg (bk_ BK263))
    replace BK263 := ak_ (blk_below (bk_ BK263) hb)
    have NB264_275 := ak_ (nl_ hg (bk_ BK264))
    have NB275_264 := ak_ (ng_ hg (bk_ BK264))
    replace BK264 := ak_ (blk_below (bk_ BK264) hb)
    clear hb hbox hg
    refine hK.out _ _ ⟨(blk_cell BK263.out 0).trans rfl, (blk_cell BK263.out 1).trans rfl, (blk_cell BK263.out 2).trans rfl, (blk_cell BK263.out 3).trans rfl, (blk_cell BK263.out 4).trans rfl, (blk_cell BK263.out 5).trans rfl, (blk_cell BK263.out 6).trans rfl, (blk_cell BK263.out 7).trans rfl, (blk_cell BK263.out 8).trans rfl, (blk_cell BK263.out 9).trans rfl, (blk_cell BK263.out 10).trans rfl, (blk_cell BK263.out 11).trans rfl⟩ (fun hHeld => ?_)
    clear hK K
    refine norm_ (a' := ?_) ?_ ?_
    rotate_left
    ·show Act.put _ (some 3) _ = _
     simp only [Act.put, List.setIfInBounds_toArray, List.set_cons_zero, List.set_cons_succ, i64_w, i32_w]
     rfl
    exact norm_ (by simp only [putAll, Act.put, List.setIfInBounds_toArray, List.set_cons_zero, List.set_cons_succ]) (hCont (.slice Ao10 t265.length co10, .slice Ao9 t270.length co9, gb275) _ ⟨hHeld, (by (with_reducible repeat (first | apply Kd.R_alloc | apply Kd.R_drewN | apply Kd.R_drew)); exact Kd.R_mono HO267.out (fun _ hk => hk.2)), (by (with_reducible repeat (first | apply Kd.R_alloc | apply Kd.R_drewN | apply Kd.R_drew)); exact Kd.R_mono HO272.out (fun _ hk => hk.2)), (by (with_reducible repeat (first | refine kn_ ?_ _ | refine kd_ ?_ | refine ka_ ?_ _)); exact BK263.out), (by (with_reducible repeat (first | refine kn_ ?_ _ | refine kd_ ?_ | refine ka_ ?_ _)); exact BK264.out), (by (with_reducible repeat (first | refine kn_ ?_ _ | refine kd_ ?_ | refine ka_ ?_ _)); exact BK275.out), GW275.out, GE275.out, NB263_275.out, NB275_263.out, NB264_275.out, NB275_264.out, hb_⟩)
   ·skip
    refine box_step ?hg (N := 3) ?hd (cs := #[.int .i64 0, .int .i64 0, .int .i64 0, .slice none 0 0, .slice none 0 0, .int .i64 0, .int .i64 0, .slice none 0 0, .int .i64 0, .int .i64 0, .int .i64 0, .int .i64 0]) (t := 33) ?hr ?_; (case hd => rfl); (case hg => rfl); (case hr => first | (go_simp; done) | (go_simp; rfl))
    intro gb275 hg w8 hbox hb
    replace HO267 := ak_ (Kd.R_below (ro_ HO267) hb)
    have BK275 := ak_ hbox
    have GW275 := ak_ ((gs_ hg : w.heap.size ≤ gb275))
    have GE275 := ak_ ((gs_ hg : w.heap.size ≤ gb275))
    replace HB := ak_ (below_step hb_ hb)
    have NB263_275 := ak_ (nl_ hg (bk_ BK263))
    have NB275_263 := ak_ (ng_ hg (bk_ BK263))
    replace BK263 := ak_ (blk_below (bk_ BK263) hb)
    have NB264_275 := ak_ (nl_ hg (bk_ BK264))
    have NB275_264 := ak_ (ng_ hg (bk_ BK264))
    replace BK264 := ak_ (blk_below (bk_ BK264) hb)
    clear hb hbox hg
    refine hK.out _ _ ⟨(blk_cell BK263.out 0).trans rfl, (blk_cell BK263.out 1).trans rfl, (blk_cell BK263.out 2).trans rfl, (blk_cell BK263.out 3).trans rfl, (blk_cell BK263.out 4).trans rfl, (blk_cell BK263.out 5).trans rfl, (blk_cell BK263.out 6).trans rfl, (blk_cell BK263.out 7).trans rfl, (blk_cell BK263.out 8).trans rfl, (blk_cell BK263.out 9).trans rfl, (blk_cell BK263.out 10).trans rfl, (blk_cell BK263.out 11).trans rfl⟩ (fun hHeld => ?_)
    clear hK K
    refine norm_ (a' := ?_) ?_ ?_
    rotate_left
    ·show Act.put _ (some 3) _ = _
     simp only [Act.put, List.setIfInBounds_toArray, List.set_cons_zero, List.set_cons_succ, i64_w, i32_w]
     rfl
    refine one_ (i := 9) (N := some 14) spec_l08Setup.d1 rfl rfl (one_of HT_.out (by kernel_rfl)) (by decide) (fun K hK => ?_)
    refine goes_ Try.func78 (by kernel_rfl) rfl #[.agg #[.slice A0_7 l0_7.length c0_7, .int .i64 a0_8, .int .i64 a0_9]] (by rfl) rfl rfl (ma1_ rfl) ?_
    with_reducible refine (spec_l08Side.calls k _ _ l0_7 a0_8 a0_9 t270 t273 t274 _ ?side1 ?side2 A3.out).mono ?_
    (case side1 => exact kc_ HR0_7)
    (case side2 => exact HC0_7.out)
    rintro e w9 ⟨v271, rfl, ho0, hb⟩
    refine ⟨_, rfl, ?_⟩
    have HO272 := ak_ (Kd.R_lower (Kd.R_new' ho0 (Kd.R_lt (ro_ HO267))) (below_size hb_))
    replace HO267 := ak_ (Kd.R_elder' (ro_ HO267) (Kd.R_base ho0) hb)
    replace BK263 := ak_ (blk_below (bk_ BK263) hb)
    replace BK264 := ak_ (blk_below (bk_ BK264) hb)
    replace BK275 := ak_ (blk_below (bk_ BK275) hb)
    replace HB := ak_ (below_step hb_ hb)
    (try clear hb)
    (try clear hb2)
    (try clear hk)
    (try clear hi)
    (try clear ho0)
    obtain ⟨Ao10, co10, eo10⟩ := Kd.R_slice HO272.out
    (first | subst eo10 | (injection eo10 with f1_ f2_ f3_; have f4_ := f1_.symm; have f5_ := f3_.symm; clear f1_ f2_ f3_; subst f4_; subst f5_))
    obtain ⟨Ao11, co11, eo11⟩ := Kd.R_slice HO267.out
    (first | subst eo11 | (injection eo11 with f1_ f2_ f3_; have f4_ := f1_.symm; have f5_ := f3_.symm; clear f1_ f2_ f3_; subst f4_; subst f5_))
    refine hK.out _ _ ⟨(blk_cell BK263.out 0).trans rfl, (blk_cell BK263.out 1).trans rfl, (blk_cell BK263.out 2).trans rfl, (blk_cell BK263.out 3).trans rfl, (blk_cell BK263.out 4).trans rfl, (blk_cell BK263.out 5).trans rfl, (blk_cell BK263.out 6).trans rfl, (blk_cell BK263.out 7).trans rfl, (blk_cell BK263.out 8).trans rfl, (blk_cell BK263.out 9).trans rfl, (blk_cell BK263.out 10).trans rfl, (blk_cell BK263.out 11).trans rfl⟩ (fun hHeld => ?_)
    clear hK K
    refine norm_ (a' := ?_) ?_ ?_
    rotate_left
    ·show Act.put _ (some 14) _ = _
     simp only [Act.put, List.setIfInBounds_toArray, List.set_cons_zero, List.set_cons_succ, i64_w, i32_w]
     rfl
    refine p1_ (i := 16) (N := some 21) spec_l08Setup.d2 (any_of HT_.out (by kernel_rfl)) ?_
    refine p1_ (i := 17) (N := some 22) spec_l08Setup.d3 (any_of HT_.out (by kernel_rfl)) ?_
    exact norm_ (by simp only [putAll, Act.put, List.setIfInBounds_toArray, List.set_cons_zero, List.set_cons_succ]) (hCont (.slice Ao11 t265.length co11, .slice Ao10 t270.length co10, gb275) _ ⟨hHeld, (by (with_reducible repeat (first | apply Kd.R_alloc | apply Kd.R_drewN | apply Kd.R_drew)); exact Kd.R_mono HO267.out (fun _ hk => hk.2)), (by (with_reducible repeat (first | apply Kd.R_alloc | apply Kd.R_drewN | apply Kd.R_drew)); exact Kd.R_mono HO272.out (fun _ hk => hk.2)), (by (with_reducible repeat (first | refine kn_ ?_ _ | refine kd_ ?_ | refine ka_ ?_ _)); exact BK263.out), (by (with_reducible repeat (first | refine kn_ ?_ _ | refine kd_ ?_ | refine ka_ ?_ _)); exact BK264.out), (by (with_reducible repeat (first | refine kn_ ?_ _ | refine kd_ ?_ | refine ka_ ?_ _)); exact BK275.out), GW275.out, GE275.out, NB263_275.out, NB275_263.out, NB264_275.out, NB275_264.out, hb_⟩)
  ·skip
   refine box_step ?hg (N := 3) ?hd (cs := #[.int .i64 0, .int .i64 0, .int .i64 0, .slice none 0 0, .slice none 0 0, .int .i64 0, .int .i64 0, .slice none 0 0, .int .i64 0, .int .i64 0, .int .i64 0, .int .i64 0]) (t := 33) ?hr ?_; (case hd => rfl); (case hg => rfl); (case hr => first | (go_simp; done) | (go_simp; rfl))
   intro gb275 hg w7 hbox hb
   have BK275 := ak_ hbox
   have GW275 := ak_ ((gs_ hg : w.heap.size ≤ gb275))
   have GE275 := ak_ ((gs_ hg : w.heap.size ≤ gb275))
   replace HB := ak_ (below_step hb_ hb)
   have NB263_275 := ak_ (nl_ hg (bk_ BK263))
   have NB275_263 := ak_ (ng_ hg (bk_ BK263))
   replace BK263 := ak_ (blk_below (bk_ BK263) hb)
   have NB264_275 := ak_ (nl_ hg (bk_ BK264))
   have NB275_264 := ak_ (ng_ hg (bk_ BK264))
   replace BK264 := ak_ (blk_below (bk_ BK264) hb)
   clear hb hbox hg
   refine hK.out _ _ ⟨(blk_cell BK263.out 0).trans rfl, (blk_cell BK263.out 1).trans rfl, (blk_cell BK263.out 2).trans rfl, (blk_cell BK263.out 3).trans rfl, (blk_cell BK263.out 4).trans rfl, (blk_cell BK263.out 5).trans rfl, (blk_cell BK263.out 6).trans rfl, (blk_cell BK263.out 7).trans rfl, (blk_cell BK263.out 8).trans rfl, (blk_cell BK263.out 9).trans rfl, (blk_cell BK263.out 10).trans rfl, (blk_cell BK263.out 11).trans rfl⟩ (fun hHeld => ?_)
   clear hK K
   refine norm_ (a' := ?_) ?_ ?_
   rotate_left
   ·show Act.put _ (some 3) _ = _
    simp only [Act.put, List.setIfInBounds_toArray, List.set_cons_zero, List.set_cons_succ, i64_w, i32_w]
    rfl
   refine one_ (i := 5) (N := some 10) spec_l08Setup.d0 rfl rfl (one_of HT_.out (by kernel_rfl)) (by decide) (fun K hK => ?_)
   refine goes_ Try.func78 (by kernel_rfl) rfl #[.agg #[.slice A0_4 l0_4.length c0_4, .int .i64 a0_5, .int .i64 a0_6]] (by rfl) rfl rfl (ma1_ rfl) ?_
   with_reducible refine (spec_l08Side.calls k _ _ l0_4 a0_5 a0_6 t265 t268 t269 _ ?side1 ?side2 A2.out).mono ?_
   (case side1 => exact kc_ HR0_4)
   (case side2 => exact HC0_4.out)
   rintro e w8 ⟨v266, rfl, ho0, hb⟩
   refine ⟨_, rfl, ?_⟩
   have HO267 := ak_ (Kd.R_lower ho0 (below_size hb_))
   replace BK263 := ak_ (blk_below (bk_ BK263) hb)
   replace BK264 := ak_ (blk_below (bk_ BK264) hb)
   replace BK275 := ak_ (blk_below (bk_ BK275) hb)
   replace HB := ak_ (below_step hb_ hb)
   (try clear hb)
   (try clear hb2)
   (try clear hk)
   (try clear hi)
   (try clear ho0)
   refine hK.out _ _ ⟨(blk_cell BK263.out 0).trans rfl, (blk_cell BK263.out 1).trans rfl, (blk_cell BK263.out 2).trans rfl, (blk_cell BK263.out 3).trans rfl, (blk_cell BK263.out 4).trans rfl, (blk_cell BK263.out 5).trans rfl, (blk_cell BK263.out 6).trans rfl, (blk_cell BK263.out 7).trans rfl, (blk_cell BK263.out 8).trans rfl, (blk_cell BK263.out 9).trans rfl, (blk_cell BK263.out 10).trans rfl, (blk_cell BK263.out 11).trans rfl⟩ (fun hHeld => ?_)
   clear hK K
   refine norm_ (a' := ?_) ?_ ?_
   rotate_left
   ·show Act.put _ (some 10) _ = _
    simp only [Act.put, List.setIfInBounds_toArray, List.set_cons_zero, List.set_cons_succ, i64_w, i32_w]
    rfl
   refine one_ (i := 9) (N := some 14) spec_l08Setup.d1 rfl rfl (one_of HT_.out (by kernel_rfl)) (by decide) (fun K hK => ?_)
   refine goes_ Try.func78 (by kernel_rfl) rfl #[.agg #[.slice A0_7 l0_7.length c0_7, .int .i64 a0_8, .int .i64 a0_9]] (by rfl) rfl rfl (ma1_ rfl) ?_
   with_reducible refine (spec_l08Side.calls k _ _ l0_7 a0_8 a0_9 t270 t273 t274 _ ?side1 ?side2 A3.out).mono ?_
   (case side1 => exact kc_ HR0_7)
   (case side2 => exact HC0_7.out)
   rintro e w9 ⟨v271, rfl, ho0, hb⟩
   refine ⟨_, rfl, ?_⟩
   have HO272 := ak_ (Kd.R_lower (Kd.R_new' ho0 (Kd.R_lt (ro_ HO267))) (below_size hb_))
   replace HO267 := ak_ (Kd.R_elder' (ro_ HO267) (Kd.R_base ho0) hb)
   replace BK263 := ak_ (blk_below (bk_ BK263) hb)
   replace BK264 := ak_ (blk_below (bk_ BK264) hb)
   replace BK275 := ak_ (blk_below (bk_ BK275) hb)
   replace HB := ak_ (below_step hb_ hb)
   (try clear hb)
   (try clear hb2)
   (try clear hk)
   (try clear hi)
   (try clear ho0)
   obtain ⟨Ao10, co10, eo10⟩ := Kd.R_slice HO272.out
   (first | subst eo10 | (injection eo10 with f1_ f2_ f3_; have f4_ := f1_.symm; have f5_ := f3_.symm; clear f1_ f2_ f3_; subst f4_; subst f5_))
   obtain ⟨Ao11, co11, eo11⟩ := Kd.R_slice HO267.out
   (first | subst eo11 | (injection eo11 with f1_ f2_ f3_; have f4_ := f1_.symm; have f5_ := f3_.symm; clear f1_ f2_ f3_; subst f4_; subst f5_))
   refine hK.out _ _ ⟨(blk_cell BK263.out 0).trans rfl, (blk_cell BK263.out 1).trans rfl, (blk_cell BK263.out 2).trans rfl, (blk_cell BK263.out 3).trans rfl, (blk_cell BK263.out 4).trans rfl, (blk_cell BK263.out 5).trans rfl, (blk_cell BK263.out 6).trans rfl, (blk_cell BK263.out 7).trans rfl, (blk_cell BK263.out 8).trans rfl, (blk_cell BK263.out 9).trans rfl, (blk_cell BK263.out 10).trans rfl, (blk_cell BK263.out 11).trans rfl⟩ (fun hHeld => ?_)
   clear hK K
   refine norm_ (a' := ?_) ?_ ?_
   rotate_left
   ·show Act.put _ (some 14) _ = _
    simp only [Act.put, List.setIfInBounds_toArray, List.set_cons_zero, List.set_cons_succ, i64_w, i32_w]
    rfl
   refine p1_ (i := 16) (N := some 21) spec_l08Setup.d2 (any_of HT_.out (by kernel_rfl)) ?_
   refine p1_ (i := 17) (N := some 22) spec_l08Setup.d3 (any_of HT_.out (by kernel_rfl)) ?_
   exact norm_ (by simp only [putAll, Act.put, List.setIfInBounds_toArray, List.set_cons_zero, List.set_cons_succ]) (hCont (.slice Ao11 t265.length co11, .slice Ao10 t270.length co10, gb275) _ ⟨hHeld, (by (with_reducible repeat (first | apply Kd.R_alloc | apply Kd.R_drewN | apply Kd.R_drew)); exact Kd.R_mono HO267.out (fun _ hk => hk.2)), (by (with_reducible repeat (first | apply Kd.R_alloc | apply Kd.R_drewN | apply Kd.R_drew)); exact Kd.R_mono HO272.out (fun _ hk => hk.2)), (by (with_reducible repeat (first | refine kn_ ?_ _ | refine kd_ ?_ | refine ka_ ?_ _)); exact BK263.out), (by (with_reducible repeat (first | refine kn_ ?_ _ | refine kd_ ?_ | refine ka_ ?_ _)); exact BK264.out), (by (with_reducible repeat (first | refine kn_ ?_ _ | refine kd_ ?_ | refine ka_ ?_ _)); exact BK275.out), GW275.out, GE275.out, NB263_275.out, NB275_263.out, NB264_275.out, NB275_264.out, hb_⟩)
 rintro ⟨v266, v271, gb275⟩ w12 ⟨hS_, h0_, h1_, h2_, h3_, h4_, h5_, h6_, h7_, h8_, h9_, h10_, h11_⟩
 have n0_ : Aside0 (Kd.R k71 71 w12 w.heap.size (fun k_ => some k_ ≠ (v271 : Value).ownBlock) v266 t265) := ⟨h0_⟩
 have n1_ : Aside0 (Kd.R k71 71 w12 w.heap.size (fun k_ => some k_ ≠ (v266 : Value).ownBlock) v271 t270) := ⟨h1_⟩
 have n2_ : Aside0 (w12.heap[gb263]? = some (.cells #[.int .i64 a0_0, .int .i64 a0_1, .int .i64 a0_2, .slice A0_3 l0_3.length c0_3, .slice A0_4 l0_4.length c0_4, .int .i64 a0_5, .int .i64 a0_6, .slice A0_7 l0_7.length c0_7, .int .i64 a0_8, .int .i64 a0_9, .int .i64 a0_10, .int .i64 a0_11] 33 (0, 0))) := ⟨h2_⟩
 have n3_ : Aside0 (w12.heap[gb264]? = some (.cells #[.int .i64 0, .int .i64 0, .int .i64 0, .slice none 0 0, .slice none 0 0, .int .i64 0, .int .i64 0, .slice none 0 0, .int .i64 0, .int .i64 0, .int .i64 0, .int .i64 0] 33 (0, 0))) := ⟨h3_⟩
 have n4_ : Aside0 (w12.heap[gb275]? = some (.cells #[.int .i64 0, .int .i64 0, .int .i64 0, .slice none 0 0, .slice none 0 0, .int .i64 0, .int .i64 0, .slice none 0 0, .int .i64 0, .int .i64 0, .int .i64 0, .int .i64 0] 33 (0, 0))) := ⟨h4_⟩
 have n5_ : Aside0 (w.heap.size ≤ gb275) := ⟨h5_⟩
 have n6_ : Aside0 (w.heap.size ≤ gb275) := ⟨h6_⟩
 have n7_ : Aside0 (gb263 ≠ gb275) := ⟨h7_⟩
 have n8_ : Aside0 (gb275 ≠ gb263) := ⟨h8_⟩
 have n9_ : Aside0 (gb264 ≠ gb275) := ⟨h9_⟩
 have n10_ : Aside0 (gb275 ≠ gb264) := ⟨h10_⟩
 have n11_ : Aside0 (Below w.heap.size w w12) := ⟨h11_⟩
 clear BK263
 clear BK264
 clear HB
 clear h0_ h1_ h2_ h3_ h4_ h5_ h6_ h7_ h8_ h9_ h10_ h11_
 have HO267 := n0_
 have HO272 := n1_
 have BK263 := n2_
 have BK264 := n3_
 have BK275 := n4_
 have GW275 := n5_
 have GE275 := n6_
 have NB263_275 := n7_
 have NB275_263 := n8_
 have NB264_275 := n9_
 have NB275_264 := n10_
 have HB := n11_
 clear n0_ n1_ n2_ n3_ n4_ n5_ n6_ n7_ n8_ n9_ n10_ n11_
 have hHeld : w12.cell? ⟨gb263, 0, none⟩ = some (.int .i64 a0_0) ∧ w12.cell? ⟨gb263, 1, none⟩ = some (.int .i64 a0_1) ∧ w12.cell? ⟨gb263, 2, none⟩ = some (.int .i64 a0_2) ∧ w12.cell? ⟨gb263, 3, none⟩ = some (.slice A0_3 l0_3.length c0_3) ∧ w12.cell? ⟨gb263, 4, none⟩ = some (.slice A0_4 l0_4.length c0_4) ∧ w12.cell? ⟨gb263, 5, none⟩ = some (.int .i64 a0_5) ∧ w12.cell? ⟨gb263, 6, none⟩ = some (.int .i64 a0_6) ∧ w12.cell? ⟨gb263, 7, none⟩ = some (.slice A0_7 l0_7.length c0_7) ∧ w12.cell? ⟨gb263, 8, none⟩ = some (.int .i64 a0_8) ∧ w12.cell? ⟨gb263, 9, none⟩ = some (.int .i64 a0_9) ∧ w12.cell? ⟨gb263, 10, none⟩ = some (.int .i64 a0_10) ∧ w12.cell? ⟨gb263, 11, none⟩ = some (.int .i64 a0_11) := hS_
 obtain ⟨Ao13, co13, eo13⟩ := Kd.R_slice HO272.out
 (first | subst eo13 | (injection eo13 with f1_ f2_ f3_; have f4_ := f1_.symm; have f5_ := f3_.symm; clear f1_ f2_ f3_; subst f4_; subst f5_))
 obtain ⟨Ao14, co14, eo14⟩ := Kd.R_slice HO267.out
 (first | subst eo14 | (injection eo14 with f1_ f2_ f3_; have f4_ := f1_.symm; have f5_ := f3_.symm; clear f1_ f2_ f3_; subst f4_; subst f5_))
 refine norm_ (a' := ?_) ?_ ?_
 rotate_left
 ·simp only [putAll, Act.put, List.setIfInBounds_toArray, List.set_cons_zero, List.set_cons_succ]
  rfl
 refine one_ (i := 19) (N := none) #[true, true, true, true, true, true, true, true, true, true, true, true, true, true, true, true, true, true, true, true] rfl rfl (one_of HT_.out (by kernel_rfl)) (by decide) (fun K hK => ?_)
 have hs15 : w12.cell? ⟨gb275, 0, none⟩ = some (.int .i64 0) := (blk_cell BK275.out 0).trans rfl
 have hfs15 := blk_frozen BK275.out 0
 have hns15_0 := NB263_275.out
 have hns15_1 := NB264_275.out
 have hms15_0 := NB275_263.out
 have hms15_1 := NB275_264.out
 have hs16 : w12.cell? ⟨gb275, 1, none⟩ = some (.int .i64 0) := (blk_cell BK275.out 1).trans rfl
 have hfs16 := blk_frozen BK275.out 1
 have hns16_0 := NB263_275.out
 have hns16_1 := NB264_275.out
 have hms16_0 := NB275_263.out
 have hms16_1 := NB275_264.out
 have hs17 : w12.cell? ⟨gb275, 2, none⟩ = some (.int .i64 0) := (blk_cell BK275.out 2).trans rfl
 have hfs17 := blk_frozen BK275.out 2
 have hns17_0 := NB263_275.out
 have hns17_1 := NB264_275.out
 have hms17_0 := NB275_263.out
 have hms17_1 := NB275_264.out
 have hs18 : w12.cell? ⟨gb275, 3, none⟩ = some (.slice none 0 0) := (blk_cell BK275.out 3).trans rfl
 have hfs18 := blk_frozen BK275.out 3
 have hns18_0 := NB263_275.out
 have hns18_1 := NB264_275.out
 have hms18_0 := NB275_263.out
 have hms18_1 := NB275_264.out
 have hs19 : w12.cell? ⟨gb275, 4, none⟩ = some (.slice none 0 0) := (blk_cell BK275.out 4).trans rfl
 have hfs19 := blk_frozen BK275.out 4
 have hns19_0 := NB263_275.out
 have hns19_1 := NB264_275.out
 have hms19_0 := NB275_263.out
 have hms19_1 := NB275_264.out
 have hs20 : w12.cell? ⟨gb275, 5, none⟩ = some (.int .i64 0) := (blk_cell BK275.out 5).trans rfl
 have hfs20 := blk_frozen BK275.out 5
 have hns20_0 := NB263_275.out
 have hns20_1 := NB264_275.out
 have hms20_0 := NB275_263.out
 have hms20_1 := NB275_264.out
 have hs21 : w12.cell? ⟨gb275, 6, none⟩ = some (.int .i64 0) := (blk_cell BK275.out 6).trans rfl
 have hfs21 := blk_frozen BK275.out 6
 have hns21_0 := NB263_275.out
 have hns21_1 := NB264_275.out
 have hms21_0 := NB275_263.out
 have hms21_1 := NB275_264.out
 have hs22 : w12.cell? ⟨gb275, 7, none⟩ = some (.slice none 0 0) := (blk_cell BK275.out 7).trans rfl
 have hfs22 := blk_frozen BK275.out 7
 have hns22_0 := NB263_275.out
 have hns22_1 := NB264_275.out
 have hms22_0 := NB275_263.out
 have hms22_1 := NB275_264.out
 have hs23 : w12.cell? ⟨gb275, 8, none⟩ = some (.int .i64 0) := (blk_cell BK275.out 8).trans rfl
 have hfs23 := blk_frozen BK275.out 8
 have hns23_0 := NB263_275.out
 have hns23_1 := NB264_275.out
 have hms23_0 := NB275_263.out
 have hms23_1 := NB275_264.out
 have hs24 : w12.cell? ⟨gb275, 9, none⟩ = some (.int .i64 0) := (blk_cell BK275.out 9).trans rfl
 have hfs24 := blk_frozen BK275.out 9
 have hns24_0 := NB263_275.out
 have hns24_1 := NB264_275.out
 have hms24_0 := NB275_263.out
 have hms24_1 := NB275_264.out
 have hs25 : w12.cell? ⟨gb275, 10, none⟩ = some (.int .i64 0) := (blk_cell BK275.out 10).trans rfl
 have hfs25 := blk_frozen BK275.out 10
 have hns25_0 := NB263_275.out
 have hns25_1 := NB264_275.out
 have hms25_0 := NB275_263.out
 have hms25_1 := NB275_264.out
 have hs26 : w12.cell? ⟨gb275, 11, none⟩ = some (.int .i64 0) := (blk_cell BK275.out 11).trans rfl
 have hfs26 := blk_frozen BK275.out 11
 have hns26_0 := NB263_275.out
 have hns26_1 := NB264_275.out
 have hms26_0 := NB275_263.out
 have hms26_1 := NB275_264.out
 refine skip_ (w1 := ?_) (by rfl) rfl ?_ ?_
 rotate_left
 ·go_simp
  rfl
 refine hK.out _ _ ⟨((cell_far (p := ⟨gb275, _, none⟩) NB263_275.out _).trans (((cell_far (p := ⟨gb275, _, none⟩) NB263_275.out _).trans (((cell_far (p := ⟨gb275, _, none⟩) NB263_275.out _).trans (((cell_far (p := ⟨gb275, _, none⟩) NB263_275.out _).trans (((cell_far (p := ⟨gb275, _, none⟩) NB263_275.out _).trans (((cell_far (p := ⟨gb275, _, none⟩) NB263_275.out _).trans (((cell_far (p := ⟨gb275, _, none⟩) NB263_275.out _).trans (((cell_far (p := ⟨gb275, _, none⟩) NB263_275.out _).trans (((cell_far (p := ⟨gb275, _, none⟩) NB263_275.out _).trans (((cell_far (p := ⟨gb275, _, none⟩) NB263_275.out _).trans (((cell_far (p := ⟨gb275, _, none⟩) NB263_275.out _).trans (((cell_far (p := ⟨gb275, _, none⟩) NB263_275.out _).trans (hHeld.1)))))))))))))))))))))))), ((cell_far (p := ⟨gb275, _, none⟩) NB263_275.out _).trans (((cell_far (p := ⟨gb275, _, none⟩) NB263_275.out _).trans (((cell_far (p := ⟨gb275, _, none⟩) NB263_275.out _).trans (((cell_far (p := ⟨gb275, _, none⟩) NB263_275.out _).trans (((cell_far (p := ⟨gb275, _, none⟩) NB263_275.out _).trans (((cell_far (p := ⟨gb275, _, none⟩) NB263_275.out _).trans (((cell_far (p := ⟨gb275, _, none⟩) NB263_275.out _).trans (((cell_far (p := ⟨gb275, _, none⟩) NB263_275.out _).trans (((cell_far (p := ⟨gb275, _, none⟩) NB263_275.out _).trans (((cell_far (p := ⟨gb275, _, none⟩) NB263_275.out _).trans (((cell_far (p := ⟨gb275, _, none⟩) NB263_275.out _).trans (((cell_far (p := ⟨gb275, _, none⟩) NB263_275.out _).trans (hHeld.2.1)))))))))))))))))))))))), ((cell_far (p := ⟨gb275, _, none⟩) NB263_275.out _).trans (((cell_far (p := ⟨gb275, _, none⟩) NB263_275.out _).trans (((cell_far (p := ⟨gb275, _, none⟩) NB263_275.out _).trans (((cell_far (p := ⟨gb275, _, none⟩) NB263_275.out _).trans (((cell_far (p := ⟨gb275, _, none⟩) NB263_275.out _).trans (((cell_far (p := ⟨gb275, _, none⟩) NB263_275.out _).trans (((cell_far (p := ⟨gb275, _, none⟩) NB263_275.out _).trans (((cell_far (p := ⟨gb275, _, none⟩) NB263_275.out _).trans (((cell_far (p := ⟨gb275, _, none⟩) NB263_275.out _).trans (((cell_far (p := ⟨gb275, _, none⟩) NB263_275.out _).trans (((cell_far (p := ⟨gb275, _, none⟩) NB263_275.out _).trans (((cell_far (p := ⟨gb275, _, none⟩) NB263_275.out _).trans (hHeld.2.2.1)))))))))))))))))))))))), ((cell_far (p := ⟨gb275, _, none⟩) NB263_275.out _).trans (((cell_far (p := ⟨gb275, _, none⟩) NB263_275.out _).trans (((cell_far (p := ⟨gb275, _, none⟩) NB263_275.out _).trans (((cell_far (p := ⟨gb275, _, none⟩) NB263_275.out _).trans (((cell_far (p := ⟨gb275, _, none⟩) NB263_275.out _).trans (((cell_far (p := ⟨gb275, _, none⟩) NB263_275.out _).trans (((cell_far (p := ⟨gb275, _, none⟩) NB263_275.out _).trans (((cell_far (p := ⟨gb275, _, none⟩) NB263_275.out _).trans (((cell_far (p := ⟨gb275, _, none⟩) NB263_275.out _).trans (((cell_far (p := ⟨gb275, _, none⟩) NB263_275.out _).trans (((cell_far (p := ⟨gb275, _, none⟩) NB263_275.out _).trans (((cell_far (p := ⟨gb275, _, none⟩) NB263_275.out _).trans (hHeld.2.2.2.1)))))))))))))))))))))))), ((cell_far (p := ⟨gb275, _, none⟩) NB263_275.out _).trans (((cell_far (p := ⟨gb275, _, none⟩) NB263_275.out _).trans (((cell_far (p := ⟨gb275, _, none⟩) NB263_275.out _).trans (((cell_far (p := ⟨gb275, _, none⟩) NB263_275.out _).trans (((cell_far (p := ⟨gb275, _, none⟩) NB263_275.out _).trans (((cell_far (p := ⟨gb275, _, none⟩) NB263_275.out _).trans (((cell_far (p := ⟨gb275, _, none⟩) NB263_275.out _).trans (((cell_far (p := ⟨gb275, _, none⟩) NB263_275.out _).trans (((cell_far (p := ⟨gb275, _, none⟩) NB263_275.out _).trans (((cell_far (p := ⟨gb275, _, none⟩) NB263_275.out _).trans (((cell_far (p := ⟨gb275, _, none⟩) NB263_275.out _).trans (((cell_far (p := ⟨gb275, _, none⟩) NB263_275.out _).trans (hHeld.2.2.2.2.1)))))))))))))))))))))))), ((cell_far (p := ⟨gb275, _, none⟩) NB263_275.out _).trans (((cell_far (p := ⟨gb275, _, none⟩) NB263_275.out _).trans (((cell_far (p := ⟨gb275, _, none⟩) NB263_275.out _).trans (((cell_far (p := ⟨gb275, _, none⟩) NB263_275.out _).trans (((cell_far (p := ⟨gb275, _, none⟩) NB263_275.out _).trans (((cell_far (p := ⟨gb275, _, none⟩) NB263_275.out _).trans (((cell_far (p := ⟨gb275, _, none⟩) NB263_275.out _).trans (((cell_far (p := ⟨gb275, _, none⟩) NB263_275.out _).trans (((cell_far (p := ⟨gb275, _, none⟩) NB263_275.out _).trans (((cell_far (p := ⟨gb275, _, none⟩) NB263_275.out _).trans (((cell_far (p := ⟨gb275, _, none⟩) NB263_275.out _).trans (((cell_far (p := ⟨gb275, _, none⟩) NB263_275.out _).trans (hHeld.2.2.2.2.2.1)))))))))))))))))))))))), ((cell_far (p := ⟨gb275, _, none⟩) NB263_275.out _).trans (((cell_far (p := ⟨gb275, _, none⟩) NB263_275.out _).trans (((cell_far (p := ⟨gb275, _, none⟩) NB263_275.out _).trans (((cell_far (p := ⟨gb275, _, none⟩) NB263_275.out _).trans (((cell_far (p := ⟨gb275, _, none⟩) NB263_275.out _).trans (((cell_far (p := ⟨gb275, _, none⟩) NB263_275.out _).trans (((cell_far (p := ⟨gb275, _, none⟩) NB263_275.out _).trans (((cell_far (p := ⟨gb275, _, none⟩) NB263_275.out _).trans (((cell_far (p := ⟨gb275, _, none⟩) NB263_275.out _).trans (((cell_far (p := ⟨gb275, _, none⟩) NB263_275.out _).trans (((cell_far (p := ⟨gb275, _, none⟩) NB263_275.out _).trans (((cell_far (p := ⟨gb275, _, none⟩) NB263_275.out _).trans (hHeld.2.2.2.2.2.2.1)))))))))))))))))))))))), ((cell_far (p := ⟨gb275, _, none⟩) NB263_275.out _).trans (((cell_far (p := ⟨gb275, _, none⟩) NB263_275.out _).trans (((cell_far (p := ⟨gb275, _, none⟩) NB263_275.out _).trans (((cell_far (p := ⟨gb275, _, none⟩) NB263_275.out _).trans (((cell_far (p := ⟨gb275, _, none⟩) NB263_275.out _).trans (((cell_far (p := ⟨gb275, _, none⟩) NB263_275.out _).trans (((cell_far (p := ⟨gb275, _, none⟩) NB263_275.out _).trans (((cell_far (p := ⟨gb275, _, none⟩) NB263_275.out _).trans (((cell_far (p := ⟨gb275, _, none⟩) NB263_275.out _).trans (((cell_far (p := ⟨gb275, _, none⟩) NB263_275.out _).trans (((cell_far (p := ⟨gb275, _, none⟩) NB263_275.out _).trans (((cell_far (p := ⟨gb275, _, none⟩) NB263_275.out _).trans (hHeld.2.2.2.2.2.2.2.1)))))))))))))))))))))))), ((cell_far (p := ⟨gb275, _, none⟩) NB263_275.out _).trans (((cell_far (p := ⟨gb275, _, none⟩) NB263_275.out _).trans (((cell_far (p := ⟨gb275, _, none⟩) NB263_275.out _).trans (((cell_far (p := ⟨gb275, _, none⟩) NB263_275.out _).trans (((cell_far (p := ⟨gb275, _, none⟩) NB263_275.out _).trans (((cell_far (p := ⟨gb275, _, none⟩) NB263_275.out _).trans (((cell_far (p := ⟨gb275, _, none⟩) NB263_275.out _).trans (((cell_far (p := ⟨gb275, _, none⟩) NB263_275.out _).trans (((cell_far (p := ⟨gb275, _, none⟩) NB263_275.out _).trans (((cell_far (p := ⟨gb275, _, none⟩) NB263_275.out _).trans (((cell_far (p := ⟨gb275, _, none⟩) NB263_275.out _).trans (((cell_far (p := ⟨gb275, _, none⟩) NB263_275.out _).trans (hHeld.2.2.2.2.2.2.2.2.1)))))))))))))))))))))))), ((cell_far (p := ⟨gb275, _, none⟩) NB263_275.out _).trans (((cell_far (p := ⟨gb275, _, none⟩) NB263_275.out _).trans (((cell_far (p := ⟨gb275, _, none⟩) NB263_275.out _).trans (((cell_far (p := ⟨gb275, _, none⟩) NB263_275.out _).trans (((cell_far (p := ⟨gb275, _, none⟩) NB263_275.out _).trans (((cell_far (p := ⟨gb275, _, none⟩) NB263_275.out _).trans (((cell_far (p := ⟨gb275, _, none⟩) NB263_275.out _).trans (((cell_far (p := ⟨gb275, _, none⟩) NB263_275.out _).trans (((cell_far (p := ⟨gb275, _, none⟩) NB263_275.out _).trans (((cell_far (p := ⟨gb275, _, none⟩) NB263_275.out _).trans (((cell_far (p := ⟨gb275, _, none⟩) NB263_275.out _).trans (((cell_far (p := ⟨gb275, _, none⟩) NB263_275.out _).trans (hHeld.2.2.2.2.2.2.2.2.2.1)))))))))))))))))))))))), ((cell_far (p := ⟨gb275, _, none⟩) NB263_275.out _).trans (((cell_far (p := ⟨gb275, _, none⟩) NB263_275.out _).trans (((cell_far (p := ⟨gb275, _, none⟩) NB263_275.out _).trans (((cell_far (p := ⟨gb275, _, none⟩) NB263_275.out _).trans (((cell_far (p := ⟨gb275, _, none⟩) NB263_275.out _).trans (((cell_far (p := ⟨gb275, _, none⟩) NB263_275.out _).trans (((cell_far (p := ⟨gb275, _, none⟩) NB263_275.out _).trans (((cell_far (p := ⟨gb275, _, none⟩) NB263_275.out _).trans (((cell_far (p := ⟨gb275, _, none⟩) NB263_275.out _).trans (((cell_far (p := ⟨gb275, _, none⟩) NB263_275.out _).trans (((cell_far (p := ⟨gb275, _, none⟩) NB263_275.out _).trans (((cell_far (p := ⟨gb275, _, none⟩) NB263_275.out _).trans (hHeld.2.2.2.2.2.2.2.2.2.2.1)))))))))))))))))))))))), ((cell_far (p := ⟨gb275, _, none⟩) NB263_275.out _).trans (((cell_far (p := ⟨gb275, _, none⟩) NB263_275.out _).trans (((cell_far (p := ⟨gb275, _, none⟩) NB263_275.out _).trans (((cell_far (p := ⟨gb275, _, none⟩) NB263_275.out _).trans (((cell_far (p := ⟨gb275, _, none⟩) NB263_275.out _).trans (((cell_far (p := ⟨gb275, _, none⟩) NB263_275.out _).trans (((cell_far (p := ⟨gb275, _, none⟩) NB263_275.out _).trans (((cell_far (p := ⟨gb275, _, none⟩) NB263_275.out _).trans (((cell_far (p := ⟨gb275, _, none⟩) NB263_275.out _).trans (((cell_far (p := ⟨gb275, _, none⟩) NB263_275.out _).trans (((cell_far (p := ⟨gb275, _, none⟩) NB263_275.out _).trans (((cell_far (p := ⟨gb275, _, none⟩) NB263_275.out _).trans (hHeld.2.2.2.2.2.2.2.2.2.2.2))))))))))))))))))))))))⟩ (fun hHeld => ?_)
 clear hK K
 refine done_ (done_of HT_.out (by kernel_rfl)) ?_
 try go_wp2
 go_loopg [4] k (fun kq v4 w' => ∃ (x4_1 : Int) (x276003_1 : List (S49)) (u276003 : Value), v4 = .int .i64 x4_1 ∧ Aside0 (spec_l08Setup.l0 kq x4_1 a0_0 a0_1 a0_2 l0_3 l0_4 a0_5 a0_6 l0_7 a0_8 a0_9 a0_10 a0_11 a0_0 a0_1 a0_2 x276003_1 t265 t268 t269 t270 t273 t274 a0_10 a0_11 = some (r1, r2, r3, r4, r5, r6, r7, r8, r9, r10, r11, r12)) ∧ Aside0 (kq ≤ k) ∧ Aside0 (Kd.R k49 49 w' w.heap.size (fun _ => True) u276003 x276003_1) ∧ Aside0 (Kd.R k71 71 w' w.heap.size (fun k_ => some k_ ≠ ((.slice Ao13 t270.length co13) : Value).ownBlock) (.slice Ao14 t265.length co14) t265) ∧ Aside0 (Kd.R k71 71 w' w.heap.size (fun k_ => some k_ ≠ ((.slice Ao14 t265.length co14) : Value).ownBlock) (.slice Ao13 t270.length co13) t270) ∧ Aside0 (w'.heap[gb263]? = some (.cells #[.int .i64 a0_0, .int .i64 a0_1, .int .i64 a0_2, (.slice A0_3 l0_3.length c0_3), (.slice A0_4 l0_4.length c0_4), .int .i64 a0_5, .int .i64 a0_6, (.slice A0_7 l0_7.length c0_7), .int .i64 a0_8, .int .i64 a0_9, .int .i64 a0_10, .int .i64 a0_11] 33 (0, 0))) ∧ Aside0 (w'.heap[gb264]? = some (.cells #[.int .i64 0, .int .i64 0, .int .i64 0, (.slice none 0 0), (.slice none 0 0), .int .i64 0, .int .i64 0, (.slice none 0 0), .int .i64 0, .int .i64 0, .int .i64 0, .int .i64 0] 33 (0, 0))) ∧ Aside0 (w'.heap[gb275]? = some (.cells #[.int .i64 a0_0, .int .i64 a0_1, .int .i64 a0_2, u276003, (.slice Ao14 t265.length co14), .int .i64 t268, .int .i64 t269, (.slice Ao13 t270.length co13), .int .i64 t273, .int .i64 t274, .int .i64 a0_10, .int .i64 a0_11] 33 (0, 0))) ∧ Aside0 (Below w.heap.size w w'))
 case atStart => exact ⟨(0), (([] : List (S49))), (.slice none 0 0), (by first | rfl | (simp; done) | (simp [*]; done)), H', ⟨Nat.le_refl _⟩, ⟨by first | exact Kd.R_nil _ _ _ _ _ | exact Kd.N_nil _ _ _ _ _ | exact Kd.V_nil _ _ _ _ _ | exact Kd.Q_nil _ _ _ _ _ | exact Kd.S_nil _ _ _ _ _⟩, ⟨by (with_reducible repeat (first | apply Kd.R_alloc | apply Kd.R_drewN | apply Kd.R_drew)); exact Kd.R_mono (rcR_ (Kd.R_types HO267.out BK275.out (by decide))) (fun _ hk => hk.1)⟩, ⟨by (with_reducible repeat (first | apply Kd.R_alloc | apply Kd.R_drewN | apply Kd.R_drew)); exact Kd.R_mono (rcR_ (Kd.R_types HO272.out BK275.out (by decide))) (fun _ hk => hk.1)⟩, ⟨bq_ BK263⟩, ⟨bq_ BK264⟩, ⟨bq_ BK275⟩, ⟨hb_⟩⟩
 case round =>
  clear H'
  try clear p2
  try clear c7
  obtain ⟨x4_1, x276003_1, u276003, rfl, HA, HK1, HO_276003, HO_276004, HO_276007, BK263, BK264, BK275, HB⟩ := hrel
  cases gk with
  | zero => exact absurd HA.out (by simp [spec_l08Setup.l0])
  | succ k1 =>
   have H := HA.out
   clear HA
   simp only [spec_l08Setup.l0] at H
   by_cases c27 : x4_1 < (l0_3.length : Int)
   ·rw [if_pos c27] at H
    have c27b0 : decide (x4_1 < (l0_3.length : Int)) = true := decide_eq_true c27
    clear c27
    by_cases c28 : 0 ≤ x4_1
    ·rw [if_pos c28] at H
     have c28b0 : decide (0 ≤ x4_1) = true := decide_eq_true c28
     clear c28
     by_cases c29 : x276003_1.length < 4398046511104
     ·rw [if_pos c29] at H
      have LMc29 := ak_ c29
      clear c29
      obtain ⟨y277, hy277⟩ : ∃ y_ : List (S49), y_ = (x276003_1 ++ [(⟨(rd_T49 l0_3 x4_1).f0, (rd_T49 l0_3 x4_1).f1, (rd_T49 l0_3 x4_1).f2⟩ : S49)]) := ⟨_, rfl⟩
      replace H : (spec_l08Setup.l0 k1 (wrap64 (x4_1 + 1)) a0_0 a0_1 a0_2 l0_3 l0_4 a0_5 a0_6 l0_7 a0_8 a0_9 a0_10 a0_11 a0_0 a0_1 a0_2 y277 t265 t268 t269 t270 t273 t274 a0_10 a0_11) = some (r1, r2, r3, r4, r5, r6, r7, r8, r9, r10, r11, r12) := by first | (rw [hy277]; with_reducible exact H) | (have H2_ := (Option.bind_some _ _).symm.trans H; rw [hy277]; with_reducible exact H2_) | (have H2_ := (Option.bind_some _ _).symm.trans H; with_reducible exact H2_) | with_reducible exact H | (rw [hy277]; exact H) | exact H
      have Ny277 := ak_ hy277
      clear hy277
      have H' := ak_ H
      clear H
      have hnb30 := NB263_264.out
      have hnc30 := NB264_263.out
      have hnb31 := NB263_275.out
      have hnc31 := NB275_263.out
      obtain ⟨hcz32_0, hcz32_1, hcz32_2, hcz32_3, hcz32_4, hcz32_5, hcz32_6, hcz32_7, hcz32_8, hcz32_9, hcz32_10, hcz32_11, hfz32_0, hfz32_1, hfz32_2, hfz32_3, hfz32_4, hfz32_5, hfz32_6, hfz32_7, hfz32_8, hfz32_9, hfz32_10, hfz32_11⟩ := bc12_ BK263.out
      try go_wp2
      replace HO_276003 := ak_ (Kd.R_drew HO_276003.out)
      replace HO_276004 := ak_ (Kd.R_drew HO_276004.out)
      replace HO_276007 := ak_ (Kd.R_drew HO_276007.out)
      replace BK263 := ak_ (blk_drew BK263.out)
      replace BK264 := ak_ (blk_drew BK264.out)
      replace BK275 := ak_ (blk_drew BK275.out)
      replace HB := ak_ (below_drew1 HB.out)
      have p276 : 0 ≤ (x4_1 : Int) := of_decide_eq_true (by first | (with_reducible assumption) | assumption)
      have q276 : x4_1 < (l0_3.length : Int) := of_decide_eq_true (by first | (with_reducible assumption) | assumption)
      obtain ⟨ad276, e276, hx276_0, hx276_1, hx276_2⟩ := at_T49 HR0_3.out x4_1 p276 q276
      have hw276_2 := hx276_2
      have hw276_1 := hx276_1
      have hw276_0 := hx276_0
      cases e276
      replace hx276_0 := cx_ HB hx276_0
      replace hx276_1 := cx_ HB hx276_1
      replace hx276_2 := cx_ HB hx276_2
      replace p276 := eq_true p276
      replace q276 := eq_true q276
      refine start_ (n := 11) (S := fun w' => w'.cell? ⟨gb275, 0, none⟩ = some (.int .i64 a0_0) ∧ w'.cell? ⟨gb275, 1, none⟩ = some (.int .i64 a0_1) ∧ w'.cell? ⟨gb275, 2, none⟩ = some (.int .i64 a0_2) ∧ w'.cell? ⟨gb275, 3, none⟩ = some (u276003) ∧ w'.cell? ⟨gb275, 4, none⟩ = some (.slice Ao14 t265.length co14) ∧ w'.cell? ⟨gb275, 5, none⟩ = some (.int .i64 t268) ∧ w'.cell? ⟨gb275, 6, none⟩ = some (.int .i64 t269) ∧ w'.cell? ⟨gb275, 7, none⟩ = some (.slice Ao13 t270.length co13) ∧ w'.cell? ⟨gb275, 8, none⟩ = some (.int .i64 t273) ∧ w'.cell? ⟨gb275, 9, none⟩ = some (.int .i64 t274) ∧ w'.cell? ⟨gb275, 10, none⟩ = some (.int .i64 a0_10) ∧ w'.cell? ⟨gb275, 11, none⟩ = some (.int .i64 a0_11) ∧ w'.cell? ⟨gb263, 0, none⟩ = some (.int .i64 a0_0) ∧ w'.cell? ⟨gb263, 1, none⟩ = some (.int .i64 a0_1) ∧ w'.cell? ⟨gb263, 2, none⟩ = some (.int .i64 a0_2) ∧ w'.cell? ⟨gb263, 3, none⟩ = some (.slice (some ad276) l0_3.length c0_3) ∧ w'.cell? ⟨gb263, 4, none⟩ = some (.slice A0_4 l0_4.length c0_4) ∧ w'.cell? ⟨gb263, 5, none⟩ = some (.int .i64 a0_5) ∧ w'.cell? ⟨gb263, 6, none⟩ = some (.int .i64 a0_6) ∧ w'.cell? ⟨gb263, 7, none⟩ = some (.slice A0_7 l0_7.length c0_7) ∧ w'.cell? ⟨gb263, 8, none⟩ = some (.int .i64 a0_8) ∧ w'.cell? ⟨gb263, 9, none⟩ = some (.int .i64 a0_9) ∧ w'.cell? ⟨gb263, 10, none⟩ = some (.int .i64 a0_10) ∧ w'.cell? ⟨gb263, 11, none⟩ = some (.int .i64 a0_11) ∧ w'.cell? (ad276.add ((x4_1).toNat * 3)) = some (.string ((rd_T49 l0_3 x4_1).f0)) ∧ w'.cell? ⟨(ad276.add ((x4_1).toNat * 3)).block, (ad276.add ((x4_1).toNat * 3)).off + 1, none⟩ = some (.int .i64 ((rd_T49 l0_3 x4_1).f1)) ∧ w'.cell? ⟨(ad276.add ((x4_1).toNat * 3)).block, (ad276.add ((x4_1).toNat * 3)).off + 2, none⟩ = some (.int .i64 ((rd_T49 l0_3 x4_1).f2))) (ds := [10]) #[false, false, false, false, false, false, false, false, false, false, false] (by kernel_rfl) rfl rfl ⟨(blk_cell BK275.out 0).trans rfl, (blk_cell BK275.out 1).trans rfl, (blk_cell BK275.out 2).trans rfl, (blk_cell BK275.out 3).trans rfl, (blk_cell BK275.out 4).trans rfl, (blk_cell BK275.out 5).trans rfl, (blk_cell BK275.out 6).trans rfl, (blk_cell BK275.out 7).trans rfl, (blk_cell BK275.out 8).trans rfl, (blk_cell BK275.out 9).trans rfl, (blk_cell BK275.out 10).trans rfl, (blk_cell BK275.out 11).trans rfl, (blk_cell BK263.out 0).trans rfl, (blk_cell BK263.out 1).trans rfl, (blk_cell BK263.out 2).trans rfl, (blk_cell BK263.out 3).trans rfl, (blk_cell BK263.out 4).trans rfl, (blk_cell BK263.out 5).trans rfl, (blk_cell BK263.out 6).trans rfl, (blk_cell BK263.out 7).trans rfl, (blk_cell BK263.out 8).trans rfl, (blk_cell BK263.out 9).trans rfl, (blk_cell BK263.out 10).trans rfl, (blk_cell BK263.out 11).trans rfl, ((HB.out.cell (World.block_lt_of_cell? w _ hw276_0)).trans hw276_0), ((HB.out.cell (World.block_lt_of_cell? w _ hw276_1)).trans hw276_1), ((HB.out.cell (World.block_lt_of_cell? w _ hw276_2)).trans hw276_2)⟩ (fun hHeld => ?_); refine with_tabW spec_l08Setup.tab5 spec_l08Setup.bits5 (fun HT_ HW_ => ?_)
      generalize wr.drew = w33 at HO_276003 HO_276004 HO_276007 BK263 BK264 BK275 HB hx276_0 hx276_1 hx276_2 hHeld ⊢
      refine p1_ (i := 0) (N := some 30) #[true, false, false, false, false, false, false, false, false, false, false] (any_of HT_.out (by kernel_rfl)) ?_
      refine p1_ (i := 2) (N := some 32) #[true, false, true, false, false, false, false, false, false, false, false] (any_of HT_.out (by kernel_rfl)) ?_
      refine p1_ (i := 4) (N := some 34) #[true, false, true, false, true, false, false, false, false, false, false] (any_of HT_.out (by kernel_rfl)) ?_
      refine take_ (i := 1) (N := some 31) (v := ?_) (a' := ?_) #[true, true, true, false, true, false, false, false, false, false, false] rfl rfl (take_ofW HT_.out HW_.out (by kernel_rfl)) (fun _ _ _ h => h) (Or.inl ⟨by rfl, ?_⟩) hHeld ?_ ?_; rotate_left; (rintro w' ⟨s0, s1, s2, s3, s4, s5, s6, s7, s8, s9, s10, s11, s12, s13, s14, s15, s16, s17, s18, s19, s20, s21, s22, s23, s24, s25, s26⟩; go_simp; with_reducible rfl); rotate_left; (simp only [Act.put, List.setIfInBounds_toArray, List.set_cons_zero, List.set_cons_succ, i64_w, i32_w]; rfl)
      refine take_ (i := 3) (N := some 33) (v := ?_) (a' := ?_) #[true, true, true, true, true, false, false, false, false, false, false] rfl rfl (take_ofW HT_.out HW_.out (by kernel_rfl)) (fun _ _ _ h => h) (Or.inl ⟨by rfl, ?_⟩) hHeld ?_ ?_; rotate_left; (rintro w' ⟨s0, s1, s2, s3, s4, s5, s6, s7, s8, s9, s10, s11, s12, s13, s14, s15, s16, s17, s18, s19, s20, s21, s22, s23, s24, s25, s26⟩; go_simp; with_reducible rfl); rotate_left; (simp only [Act.put, List.setIfInBounds_toArray, List.set_cons_zero, List.set_cons_succ, i64_w, i32_w]; rfl)
      refine p1_ (i := 5) (N := some 35) #[true, true, true, true, true, true, false, false, false, false, false] (any_of HT_.out (by kernel_rfl)) ?_
      refine take_ (i := 6) (N := some 36) (v := ?_) (a' := ?_) #[true, true, true, true, true, true, true, false, false, false, false] rfl rfl (take_ofW HT_.out HW_.out (by kernel_rfl)) (fun _ _ _ h => h) (Or.inl ⟨by rfl, ?_⟩) hHeld ?_ ?_; rotate_left; (rintro w' ⟨s0, s1, s2, s3, s4, s5, s6, s7, s8, s9, s10, s11, s12, s13, s14, s15, s16, s17, s18, s19, s20, s21, s22, s23, s24, s25, s26⟩; go_simp; with_reducible rfl); rotate_left; (simp only [Act.put, List.setIfInBounds_toArray, List.set_cons_zero, List.set_cons_succ, i64_w, i32_w]; rfl)
      refine one_ (i := 7) (N := some 37) #[true, true, true, true, true, true, true, true, false, false, false] rfl rfl (one_of HT_.out (by kernel_rfl)) (by decide) (fun K hK => ?_)
      refine value_ (w1 := ?_) (v := ?_) (by rfl) rfl ?_ ?_
      rotate_left 2
      ·go_simp
       constructor
       ·rfl
       ·rfl
      refine hK.out _ _ ⟨(blk_cell (blk_alloc BK275.out _) 0).trans rfl, (blk_cell (blk_alloc BK275.out _) 1).trans rfl, (blk_cell (blk_alloc BK275.out _) 2).trans rfl, (blk_cell (blk_alloc BK275.out _) 3).trans rfl, (blk_cell (blk_alloc BK275.out _) 4).trans rfl, (blk_cell (blk_alloc BK275.out _) 5).trans rfl, (blk_cell (blk_alloc BK275.out _) 6).trans rfl, (blk_cell (blk_alloc BK275.out _) 7).trans rfl, (blk_cell (blk_alloc BK275.out _) 8).trans rfl, (blk_cell (blk_alloc BK275.out _) 9).trans rfl, (blk_cell (blk_alloc BK275.out _) 10).trans rfl, (blk_cell (blk_alloc BK275.out _) 11).trans rfl, (blk_cell (blk_alloc BK263.out _) 0).trans rfl, (blk_cell (blk_alloc BK263.out _) 1).trans rfl, (blk_cell (blk_alloc BK263.out _) 2).trans rfl, (blk_cell (blk_alloc BK263.out _) 3).trans rfl, (blk_cell (blk_alloc BK263.out _) 4).trans rfl, (blk_cell (blk_alloc BK263.out _) 5).trans rfl, (blk_cell (blk_alloc BK263.out _) 6).trans rfl, (blk_cell (blk_alloc BK263.out _) 7).trans rfl, (blk_cell (blk_alloc BK263.out _) 8).trans rfl, (blk_cell (blk_alloc BK263.out _) 9).trans rfl, (blk_cell (blk_alloc BK263.out _) 10).trans rfl, (blk_cell (blk_alloc BK263.out _) 11).trans rfl, (World.cell?_alloc_lt _ _ _ (World.block_lt_of_cell? _ _ (((HB.out.cell (World.block_lt_of_cell? w _ hw276_0)).trans hw276_0)))).trans (((HB.out.cell (World.block_lt_of_cell? w _ hw276_0)).trans hw276_0)), (World.cell?_alloc_lt _ _ _ (World.block_lt_of_cell? _ _ (((HB.out.cell (World.block_lt_of_cell? w _ hw276_1)).trans hw276_1)))).trans (((HB.out.cell (World.block_lt_of_cell? w _ hw276_1)).trans hw276_1)), (World.cell?_alloc_lt _ _ _ (World.block_lt_of_cell? _ _ (((HB.out.cell (World.block_lt_of_cell? w _ hw276_2)).trans hw276_2)))).trans (((HB.out.cell (World.block_lt_of_cell? w _ hw276_2)).trans hw276_2))⟩ (fun hHeld => ?_)
      clear hK K
      refine norm_ (a' := ?_) ?_ ?_
      rotate_left
      ·show Act.put _ (some 37) _ = _
       simp only [Act.put, List.setIfInBounds_toArray, List.set_cons_zero, List.set_cons_succ, i64_w, i32_w]
       rfl
      refine one_ (i := 8) (N := some 38) #[true, true, true, true, true, true, true, true, true, false, false] rfl rfl (one_of HT_.out (by kernel_rfl)) (by decide) (fun K hK => ?_)
      refine Kd.R_append_step k49 (w0 := w) w.heap.size (by rfl) (.tmp 31) (.tmp 37) 26 49 (.agg #[(.string ⟨#[]⟩), (.int .i64 0), (.int .i64 0)]) 32 rfl Try.underlying26 info49 rfl (by decide) (by omega) u276003 x276003_1 (⟨(rd_T49 l0_3 x4_1).f0, (rd_T49 l0_3 x4_1).f1, (rd_T49 l0_3 x4_1).f2⟩ : S49) [.string ((rd_T49 l0_3 x4_1).f0), .int .i64 ((rd_T49 l0_3 x4_1).f1), .int .i64 ((rd_T49 l0_3 x4_1).f2)] (fun _ => True) (fun _ => False) rfl rfl ?aP (fun _ hk => hk.elim) ?aF ?aO ?aB ?aS ?aL ?_
      (case aP => exact k49_mkM _ _ _ (⟨(rd_T49 l0_3 x4_1).f0, (rd_T49 l0_3 x4_1).f1, (rd_T49 l0_3 x4_1).f2⟩ : S49))
      (case aB => exact hb_)
      (case aF => exact (fun _ _ => trivial))
      (case aO => exact (ro_ HO_276003))
      (case aS => exact (below_size hb_))
      (case aL => have := LMc29.out; omega)
      intro v278 w34 ho hb hg hat
      rw [← Ny277.out] at ho
      replace HO_276004 := ak_ (Kd.R_over' (ro_ HO_276004) (Kd.R_typed (ro_ HO_276003)) (by decide) hg)
      replace HO_276007 := ak_ (Kd.R_over' (ro_ HO_276007) (Kd.R_typed (ro_ HO_276003)) (by decide) hg)
      replace BK263 := ak_ (blk_grown (bk_ BK263) hg (Kd.R_ne HO_276003.out BK263.out (by decide)))
      replace BK264 := ak_ (blk_grown (bk_ BK264) hg (Kd.R_ne HO_276003.out BK264.out (by decide)))
      replace BK275 := ak_ (blk_grown (bk_ BK275) hg (Kd.R_ne HO_276003.out BK275.out (by decide)))
      replace HB := ak_ hb
      have HO279 := ak_ ho
      clear HO_276003
      clear ho hb hg hat
      obtain ⟨Ao35, co35, eo35⟩ := Kd.R_slice HO279.out
      (first | subst eo35 | (injection eo35 with f1_ f2_ f3_; have f4_ := f1_.symm; have f5_ := f3_.symm; clear f1_ f2_ f3_; subst f4_; subst f5_))
      refine hK.out _ _ ⟨(blk_cell BK275.out 0).trans rfl, (blk_cell BK275.out 1).trans rfl, (blk_cell BK275.out 2).trans rfl, (blk_cell BK275.out 3).trans rfl, (blk_cell BK275.out 4).trans rfl, (blk_cell BK275.out 5).trans rfl, (blk_cell BK275.out 6).trans rfl, (blk_cell BK275.out 7).trans rfl, (blk_cell BK275.out 8).trans rfl, (blk_cell BK275.out 9).trans rfl, (blk_cell BK275.out 10).trans rfl, (blk_cell BK275.out 11).trans rfl, (blk_cell BK263.out 0).trans rfl, (blk_cell BK263.out 1).trans rfl, (blk_cell BK263.out 2).trans rfl, (blk_cell BK263.out 3).trans rfl, (blk_cell BK263.out 4).trans rfl, (blk_cell BK263.out 5).trans rfl, (blk_cell BK263.out 6).trans rfl, (blk_cell BK263.out 7).trans rfl, (blk_cell BK263.out 8).trans rfl, (blk_cell BK263.out 9).trans rfl, (blk_cell BK263.out 10).trans rfl, (blk_cell BK263.out 11).trans rfl, ((HB.out.cell (World.block_lt_of_cell? w _ hw276_0)).trans hw276_0), ((HB.out.cell (World.block_lt_of_cell? w _ hw276_1)).trans hw276_1), ((HB.out.cell (World.block_lt_of_cell? w _ hw276_2)).trans hw276_2)⟩ (fun hHeld => ?_)
      clear hK K
      refine norm_ (a' := ?_) ?_ ?_
      rotate_left
      ·show Act.put _ (some 38) _ = _
       simp only [Act.put, List.setIfInBounds_toArray, List.set_cons_zero, List.set_cons_succ, i64_w, i32_w]
       rfl
      refine p1_ (i := 9) (N := some 39) #[true, true, true, true, true, true, true, true, true, true, false] (any_of HT_.out (by kernel_rfl)) ?_
      refine last_ (i := 10) (N := none) #[true, true, true, true, true, true, true, true, true, true, true] rfl rfl (one_of HT_.out (by kernel_rfl)) (by decide) (fun K hK => ?_)
      have hs36 : w34.cell? ⟨gb275, 3, none⟩ = some (u276003) := (blk_cell BK275.out 3).trans rfl
      have hfs36 := blk_frozen BK275.out 3
      have hns36_0 := NB263_275.out
      have hns36_1 := NB264_275.out
      have hms36_0 := NB275_263.out
      have hms36_1 := NB275_264.out
      refine skip_ (w1 := ?_) (by rfl) rfl ?_ ?_
      rotate_left
      ·go_simp
       rfl
      refine hK.out _ _ ?_
      clear hK K
      refine done_ (done_of HT_.out (by kernel_rfl)) ?_
      try go_wp2
      go_roundg k1
      case measure => have := HK1.out; omega
      case rel => exact ⟨(wrap64 (x4_1 + 1)), (y277), (.slice Ao35 y277.length co35), (by first | rfl | (simp; done) | (simp [*]; done)), H', ⟨by have := HK1.out; omega⟩, ⟨by (with_reducible repeat (first | apply Kd.R_alloc | apply Kd.R_drewN | apply Kd.R_drew)); exact Kd.R_mono (Kd.R_far (p := ⟨gb275, 3, none⟩) (Kd.R_types HO279.out BK275.out (by decide)) (fun _ hk => hk.2) (.slice Ao35 y277.length co35)) (fun _ hk => trivial)⟩, ⟨by (with_reducible repeat (first | apply Kd.R_alloc | apply Kd.R_drewN | apply Kd.R_drew)); exact Kd.R_mono (Kd.R_far (p := ⟨gb275, 3, none⟩) (Kd.R_types HO_276004.out BK275.out (by decide)) (fun _ hk => hk.2) (.slice Ao35 y277.length co35)) (fun _ hk => hk.1)⟩, ⟨by (with_reducible repeat (first | apply Kd.R_alloc | apply Kd.R_drewN | apply Kd.R_drew)); exact Kd.R_mono (Kd.R_far (p := ⟨gb275, 3, none⟩) (Kd.R_types HO_276007.out BK275.out (by decide)) (fun _ hk => hk.2) (.slice Ao35 y277.length co35)) (fun _ hk => hk.1)⟩, ⟨bq_ BK263⟩, ⟨bq_ BK264⟩, ⟨bq_ BK275⟩, ⟨hb_⟩⟩
     ·rw [if_neg c29] at H
      exact absurd H (by simp)
    ·rw [if_neg c28] at H
     exact absurd H (by simp)
   ·rw [if_neg c27] at H
    have c27b0 : decide (x4_1 < (l0_3.length : Int)) = false := decide_eq_false c27
    clear c27
    simp only [Option.some.injEq, Prod.mk.injEq] at H
    obtain ⟨rfl, rfl, rfl, rfl, rfl, rfl, rfl, rfl, rfl, rfl, rfl, rfl⟩ := H
    have hnb37 := NB263_264.out
    have hnc37 := NB264_263.out
    have hnb38 := NB263_275.out
    have hnc38 := NB275_263.out
    obtain ⟨hcz39_0, hcz39_1, hcz39_2, hcz39_3, hcz39_4, hcz39_5, hcz39_6, hcz39_7, hcz39_8, hcz39_9, hcz39_10, hcz39_11, hfz39_0, hfz39_1, hfz39_2, hfz39_3, hfz39_4, hfz39_5, hfz39_6, hfz39_7, hfz39_8, hfz39_9, hfz39_10, hfz39_11⟩ := bc12_ BK263.out
    have hnb40 := NB275_264.out
    have hnc40 := NB264_275.out
    obtain ⟨hcz41_0, hcz41_1, hcz41_2, hcz41_3, hcz41_4, hcz41_5, hcz41_6, hcz41_7, hcz41_8, hcz41_9, hcz41_10, hcz41_11, hfz41_0, hfz41_1, hfz41_2, hfz41_3, hfz41_4, hfz41_5, hfz41_6, hfz41_7, hfz41_8, hfz41_9, hfz41_10, hfz41_11⟩ := bc12_ BK275.out
    obtain ⟨hcz42_0, hcz42_1, hcz42_2, hcz42_3, hcz42_4, hcz42_5, hcz42_6, hcz42_7, hcz42_8, hcz42_9, hcz42_10, hcz42_11, hfz42_0, hfz42_1, hfz42_2, hfz42_3, hfz42_4, hfz42_5, hfz42_6, hfz42_7, hfz42_8, hfz42_9, hfz42_10, hfz42_11⟩ := bc12_ BK264.out
    obtain ⟨Ao43, co43, eo43⟩ := Kd.R_slice HO_276003.out
    subst eo43
    go_wp2
    refine bodyPost_ret (results_cell_row rfl _ _ gb264 33 #[.int .i64 a0_0, .int .i64 a0_1, .int .i64 a0_2, .slice Ao43 x276003_1.length co43, .slice Ao14 t265.length co14, .int .i64 t268, .int .i64 t269, .slice Ao13 t270.length co13, .int .i64 t273, .int .i64 t274, .int .i64 a0_10, .int .i64 a0_11] (0, 0) _ rfl (bq_ BK264) Try.underlying33 rfl (by kernel_rfl)) rfl ?_
    exact ⟨_, _, _, ew_, by (with_reducible repeat (first | apply Kd.R_alloc | apply Kd.R_drewN | apply Kd.R_drew)); exact Kd.R_mono (rcR_ (Kd.R_types HO_276003.out BK264.out (by decide))) (fun _ hk => trivial), by (with_reducible repeat (first | apply Kd.R_alloc | apply Kd.R_drewN | apply Kd.R_drew)); exact Kd.R_mono (rcR_ (Kd.R_types HO_276004.out BK264.out (by decide))) (fun _ hk => hk.1), by (with_reducible repeat (first | apply Kd.R_alloc | apply Kd.R_drewN | apply Kd.R_drew)); exact Kd.R_mono (rcR_ (Kd.R_types HO_276007.out BK264.out (by decide))) (fun _ hk => hk.1), hb_⟩

end Go.Proofs.Ytblfoelddakelaa.H
