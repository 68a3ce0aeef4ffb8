-- PRINTED by print.py (a twelfth state) out of the translation. Not trusted: Lean checks it.
import Derived.Test.YtblfoelddakelaaDoorP0
import Derived.Test.YtblfoelddakelaaDoorP9
import Derived.Test.YtblfoelddakelaaDoorP10
namespace Go.Proofs.YtblfoelddakelaaDoor.P
open Go.RowKit Go.Proofs.YtblfoelddakelaaDoorW.PrintWords Go.Proofs.YtblfoelddakelaaDoorW.PrintLast Go.Proofs.YtblfoelddakelaaDoorW.PrintMore
attribute [local go_sem] max2_int min2_int max_two min_two max_three min_three max_four min_four   -- for this text's walks alone
set_option linter.unusedVariables false
set_option linter.unusedSimpArgs false

/-! ### impl_SideText: function 13 -/
def impl_SideText.l0 : Nat → ByteArray → List (S67) → Int → Int → Option (ByteArray)
  | 0, _, _, _, _ => none
  | k + 1, x3, x18, x19, x20 => if x20 < x19 then (if 0 ≤ x20 then (if x20 < (x18.length : Int) then ((impl_number.f ((rd_T67 x18 x20).f0)).bind fun t185 => (if 1 + t185.size ≤ 9223372036854775807 then (if ((⟨#[32]⟩ : ByteArray) ++ t185).size + 1 ≤ 9223372036854775807 then ((impl_number.f ((rd_T67 x18 x20).f1)).bind fun t186 => (if (((⟨#[32]⟩ : ByteArray) ++ t185) ++ (⟨#[58]⟩ : ByteArray)).size + t186.size ≤ 9223372036854775807 then (if ((((⟨#[32]⟩ : ByteArray) ++ t185) ++ (⟨#[58]⟩ : ByteArray)) ++ t186).size + 1 ≤ 9223372036854775807 then ((impl_number.f ((rd_T67 x18 x20).f2)).bind fun t187 => (if (((((⟨#[32]⟩ : ByteArray) ++ t185) ++ (⟨#[58]⟩ : ByteArray)) ++ t186) ++ (⟨#[58]⟩ : ByteArray)).size + t187.size ≤ 9223372036854775807 then (if x3.size + ((((((⟨#[32]⟩ : ByteArray) ++ t185) ++ (⟨#[58]⟩ : ByteArray)) ++ t186) ++ (⟨#[58]⟩ : ByteArray)) ++ t187).size ≤ 9223372036854775807 then (impl_SideText.l0 k (x3 ++ ((((((⟨#[32]⟩ : ByteArray) ++ t185) ++ (⟨#[58]⟩ : ByteArray)) ++ t186) ++ (⟨#[58]⟩ : ByteArray)) ++ t187)) x18 x19 (wrap64 (x20 + 1))) else (none)) else (none))) else (none)) else (none))) else (none)) else (none))) else (none)) else (none)) else (some x3)
def impl_SideText.f (k : Nat) (l0_0 : List (S67)) (a0_1 : Int) (a0_2 : Int) : Option (ByteArray) := (impl_SideOk.f k l0_0 a0_1 a0_2).bind fun t176 => (if t176 = true then ((impl_number.f a0_1).bind fun t177 => ((impl_number.f a0_2).bind fun t178 => ((impl_words.f (([t177, t178] : List ByteArray))).bind fun t182 => (impl_SideText.l0 k t182 l0_0 (l0_0.length : Int) 0)))) else (some (⟨#[]⟩ : ByteArray)))
theorem impl_SideText.mono_l : ∀ k, (∀ y0 y1 y2 y3, LeO (impl_SideText.l0 k y0 y1 y2 y3) (impl_SideText.l0 (k + 1) y0 y1 y2 y3))
  | 0 => fun _ _ _ _ r h => by simp [impl_SideText.l0] at h
  | k + 1 => by
    have ih0 := impl_SideText.mono_l k
    · intro y0 y1 y2 y3
      unfold impl_SideText.l0
      repeat' with_reducible first | exact ih0 _ _ _ _ | exact impl_SideOk.mono _ _ _ _ | exact LeO.refl _ | exact LeO.none _ | refine LeO.ite ?_ ?_ | refine LeO.bind ?_ (fun _ => ?_)
theorem impl_SideText.mono : ∀ a0 a1 a2 k, LeO (impl_SideText.f k a0 a1 a2) (impl_SideText.f (k + 1) a0 a1 a2) := by
  intro a0 a1 a2 k
  have ih0 := impl_SideText.mono_l k
  unfold impl_SideText.f
  repeat' with_reducible first | exact ih0 _ _ _ _ | exact impl_SideOk.mono _ _ _ _ | exact LeO.refl _ | exact LeO.none _ | refine LeO.ite ?_ ?_ | refine LeO.bind ?_ (fun _ => ?_)
def impl_SideText.T3 : Bool × List (List Nat × List Nat) := (true, [([], []), ([0], [0]), ([1], [1]), ([], []), ([3], [3]), ([4, 2], [4]), ([2, 5], [2, 5]), ([6, 5], [6]), ([7, 7, 0, 1, 2, 3, 4, 5, 6, 7], [7])])
def impl_SideText.B3 : List Nat := [0, 1, 3, 0, 8, 31, 63, 127, 255]
theorem impl_SideText.tab3 : rtab .any (opsOf Tryd.f13 3) = impl_SideText.T3 := by kernel_rfl
theorem impl_SideText.bits3 : waitsOk impl_SideText.T3.2 impl_SideText.B3 = true := by kernel_rfl
def impl_SideText.T7 : Bool × List (List Nat × List Nat) := (true, [([], []), ([], []), ([1], [1]), ([2], [2]), ([3], [3]), ([4], [4]), ([], []), ([6], [6]), ([7, 3], [7]), ([5, 8], [5, 8]), ([9], [9]), ([], []), ([11], [11]), ([12, 8], [12]), ([10, 13], [10, 13]), ([0, 14], [0, 14]), ([15, 13, 0, 1, 2, 3, 4, 5, 6, 7, 8, 9, 10, 11, 12, 13, 14, 15], [0, 15])])
def impl_SideText.B7 : List Nat := [0, 0, 2, 6, 14, 30, 0, 64, 206, 510, 1022, 0, 2048, 6606, 16382, 32767, 65535]
theorem impl_SideText.tab7 : rtab .any (opsOf Tryd.f13 7) = impl_SideText.T7 := by kernel_rfl
theorem impl_SideText.bits7 : waitsOk impl_SideText.T7.2 impl_SideText.B7 = true := by kernel_rfl
set_option maxHeartbeats 8000000 in
set_option maxRecDepth 100000 in
theorem impl_SideText.calls (k : Nat) (A0_0 : Option Addr) (c0_0 : Nat) (l0_0 : List (S67)) (a0_1 : Int) (a0_2 : Int) (r : ByteArray) (w : World) (hr0_0 : Kd.C k67 w A0_0 l0_0.length l0_0) (hc0_0 : l0_0.length ≤ c0_0) (hL : Lay w) (h : impl_SideText.f k l0_0 a0_1 a0_2 = some r) :
  Calls Tryd.prog 13 #[.agg #[.slice A0_0 l0_0.length c0_0, .int .i64 a0_1, .int .i64 a0_2]] w fun e w' => e = .returned (.string r) ∧ Below w.heap.size w w' := by
 have HLAY := Aside0.mk hL
 clear hL
 have hu35 := Tryd.underlying35
 have hu67 := Tryd.underlying67
 have HR0_0 := Aside0.mk hr0_0
 have HC0_0 := Aside0.mk hc0_0
 clear hr0_0 hc0_0
 have HB := Aside0.mk (Below.refl w.heap.size w)
 have H : ((impl_SideOk.f k l0_0 a0_1 a0_2).bind fun t176 => (if t176 = true then ((impl_number.f a0_1).bind fun t177 => ((impl_number.f a0_2).bind fun t178 => ((impl_words.f (([t177, t178] : List ByteArray))).bind fun t182 => (impl_SideText.l0 k t182 l0_0 (l0_0.length : Int) 0)))) else (some (⟨#[]⟩ : ByteArray)))) = some r := h
 clear h
 replace H := Option.bind_eq_some_iff.mp H
 obtain ⟨t176, A20, H⟩ := H
 replace H : (if t176 = true then ((impl_number.f a0_1).bind fun t177 => ((impl_number.f a0_2).bind fun t178 => ((impl_words.f (([t177, t178] : List ByteArray))).bind fun t182 => (impl_SideText.l0 k t182 l0_0 (l0_0.length : Int) 0)))) else (some (⟨#[]⟩ : ByteArray))) = some r := H
 have A2 := Aside0.mk A20
 clear A20
 by_cases c3 : t176 = true
 ·subst c3
  rw [if_pos rfl] at H
  replace H := Option.bind_eq_some_iff.mp H
  obtain ⟨t177, A40, H⟩ := H
  replace H : ((impl_number.f a0_2).bind fun t178 => ((impl_words.f (([t177, t178] : List ByteArray))).bind fun t182 => (impl_SideText.l0 k t182 l0_0 (l0_0.length : Int) 0))) = some r := H
  have A4 := Aside0.mk A40
  clear A40
  replace H := Option.bind_eq_some_iff.mp H
  obtain ⟨t178, A50, H⟩ := H
  replace H : ((impl_words.f (([t177, t178] : List ByteArray))).bind fun t182 => (impl_SideText.l0 k t182 l0_0 (l0_0.length : Int) 0)) = some r := H
  have A5 := Aside0.mk A50
  clear A50
  obtain ⟨y179, hy179⟩ : ∃ y_ : List ByteArray, y_ = (([t177, t178] : List ByteArray)) := ⟨_, rfl⟩
  replace H : ((impl_words.f y179).bind fun t182 => (impl_SideText.l0 k t182 l0_0 (l0_0.length : Int) 0)) = some r := by first | (rw [hy179]; with_reducible exact H) | (have H2_ := (Option.bind_some _ _).symm.trans H; rw [hy179]; with_reducible exact H2_) | (have H2_ := (Option.bind_some _ _).symm.trans H; with_reducible exact H2_) | with_reducible exact H | (rw [hy179]; exact H) | exact H
  have Ny179 := Aside0.mk hy179
  clear hy179
  replace H := Option.bind_eq_some_iff.mp H
  obtain ⟨t182, A60, H⟩ := H
  replace H : (impl_SideText.l0 k t182 l0_0 (l0_0.length : Int) 0) = some r := H
  have A6 := Aside0.mk A60
  clear A60
  have H' := Aside0.mk H
  clear H
  go_enter Tryd.func13, Tryd.ntmps13
  try go_wp2_with (first | ((with_reducible refine gate_dst (N := 1) rfl ?_); refine be_ (N := 1) (cs := #[.slice A0_0 l0_0.length c0_0, .int .i64 a0_1, .int .i64 a0_2]) (t := 35) ?_; intro gb175 hg w7 hbox hb; have BK175 := ak_ hbox; have GW175 := ak_ ((gs_ hg : w.heap.size ≤ gb175)); have GE175 := ak_ ((gs_ hg : w.heap.size ≤ gb175)); replace HB := ak_ (below_step hb_ hb); clear hb hbox hg; obtain ⟨hcz8_0, hcz8_1, hcz8_2, hfz8_0, hfz8_1, hfz8_2⟩ := bc3_ BK175.out) | ((with_reducible refine gate_callee (f := 30) rfl ?_); refine goesL_ (some 7) rfl rfl Tryd.func30 (by kernel_rfl) rfl #[.agg #[.slice A0_0 l0_0.length c0_0, .int .i64 a0_1, .int .i64 a0_2]] rfl (ma1_ rfl) ?_; (with_reducible refine (impl_SideOk.calls k _ _ l0_0 a0_1 a0_2 true _ ?side1 ?side2 A2.out).mono ?_); (case side1 => exact kc_ HR0_0); (case side2 => exact HC0_0.out); rintro e w9 ⟨rfl, hb⟩; refine ⟨_, rfl, ?_⟩; replace BK175 := ak_ (blk_below (bk_ BK175) hb); replace HB := ak_ (below_step hb_ hb); (try clear hb)))
  replace BK175 := ak_ (blk_drew BK175.out)
  replace HB := ak_ (below_drew1 HB.out)
  refine start_ (n := 9) (S := fun w' => w'.cell? ⟨gb175, 0, none⟩ = some (.slice A0_0 l0_0.length c0_0) ∧ w'.cell? ⟨gb175, 1, none⟩ = some (.int .i64 a0_1) ∧ w'.cell? ⟨gb175, 2, none⟩ = some (.int .i64 a0_2)) (ds := []) #[false, false, false, false, false, false, false, false, false] (by kernel_rfl) rfl rfl ⟨(blk_cell BK175.out 0).trans rfl, (blk_cell BK175.out 1).trans rfl, (blk_cell BK175.out 2).trans rfl⟩ (fun hHeld => ?_); refine with_tabW impl_SideText.tab3 impl_SideText.bits3 (fun HT_ HW_ => ?_)
  generalize w9.drew = w10 at BK175 HB hHeld ⊢
  refine pure_ (i := 0) (N := some 9) (v := ?_) (a' := ?_) #[true, false, false, false, false, false, false, false, false] rfl rfl (any_of HT_.out (by kernel_rfl)) (fun _ _ _ h => h) (Or.inl ⟨by rfl, ?_⟩) ?_ ?_; rotate_left; (intro w'; go_simp; with_reducible rfl); rotate_left; (simp only [Act.put, List.setIfInBounds_toArray, List.set_cons_zero, List.set_cons_succ, i64_w, i32_w]; rfl)
  refine pure_ (i := 3) (N := some 12) (v := ?_) (a' := ?_) #[true, false, false, true, false, false, false, false, false] rfl rfl (any_of HT_.out (by kernel_rfl)) (fun _ _ _ h => h) (Or.inl ⟨by rfl, ?_⟩) ?_ ?_; rotate_left; (intro w'; go_simp; with_reducible rfl); rotate_left; (simp only [Act.put, List.setIfInBounds_toArray, List.set_cons_zero, List.set_cons_succ, i64_w, i32_w]; rfl)
  refine take_ (i := 1) (N := some 10) (v := ?_) (a' := ?_) #[true, true, false, true, false, false, false, false, false] rfl rfl (take_ofW HT_.out HW_.out (by kernel_rfl)) (fun _ _ _ h => h) (Or.inl ⟨by rfl, ?_⟩) hHeld ?_ ?_; rotate_left; (rintro w' ⟨s0, s1, s2⟩; go_simp; with_reducible rfl); rotate_left; (simp only [Act.put, List.setIfInBounds_toArray, List.set_cons_zero, List.set_cons_succ, i64_w, i32_w]; rfl)
  refine take_ (i := 4) (N := some 13) (v := ?_) (a' := ?_) #[true, true, false, true, true, false, false, false, false] rfl rfl (take_ofW HT_.out HW_.out (by kernel_rfl)) (fun _ _ _ h => h) (Or.inl ⟨by rfl, ?_⟩) hHeld ?_ ?_; rotate_left; (rintro w' ⟨s0, s1, s2⟩; go_simp; with_reducible rfl); rotate_left; (simp only [Act.put, List.setIfInBounds_toArray, List.set_cons_zero, List.set_cons_succ, i64_w, i32_w]; rfl)
  refine one_ (i := 2) (N := some 11) #[true, true, true, true, true, false, false, false, false] rfl rfl (one_of HT_.out (by kernel_rfl)) (by decide) (fun K hK => ?_)
  refine goes_ Tryd.func25 (by kernel_rfl) rfl #[.int .i64 a0_1] (by rfl) rfl rfl (ma1_ rfl) ?_
  with_reducible refine (impl_number.calls a0_1 t177 _ ?sideL A4.out).mono ?_
  (case sideL => refine lay_at HLAY.out ?_; repeat (first | (with_reducible first | exact HB.out | apply below_alloc | apply pw_below_drewN | apply below_drew1 | refine below_set ?_ GE175.out) | exact HB.out))
  rintro e w11 ⟨rfl, hb⟩
  refine ⟨_, rfl, ?_⟩
  replace BK175 := ak_ (blk_below (bk_ BK175) hb)
  replace HB := ak_ (below_step hb_ hb)
  (try clear hb)
  (try clear hb2)
  (try clear hk)
  (try clear hi)
  refine hK.out _ _ ⟨(blk_cell BK175.out 0).trans rfl, (blk_cell BK175.out 1).trans rfl, (blk_cell BK175.out 2).trans rfl⟩ (fun hHeld => ?_)
  clear hK K
  refine norm_ (a' := ?_) ?_ ?_
  rotate_left
  ·show Act.put _ (some 11) _ = _
   simp only [Act.put, List.setIfInBounds_toArray, List.set_cons_zero, List.set_cons_succ, i64_w, i32_w]
   rfl
  refine one_ (i := 5) (N := some 14) #[true, true, true, true, true, true, false, false, false] rfl rfl (one_of HT_.out (by kernel_rfl)) (by decide) (fun K hK => ?_)
  refine goes_ Tryd.func25 (by kernel_rfl) rfl #[.int .i64 a0_2] (by rfl) rfl rfl (ma1_ rfl) ?_
  with_reducible refine (impl_number.calls a0_2 t178 _ ?sideL A5.out).mono ?_
  (case sideL => refine lay_at HLAY.out ?_; repeat (first | (with_reducible first | exact HB.out | apply below_alloc | apply pw_below_drewN | apply below_drew1 | refine below_set ?_ GE175.out) | exact HB.out))
  rintro e w12 ⟨rfl, hb⟩
  refine ⟨_, rfl, ?_⟩
  replace BK175 := ak_ (blk_below (bk_ BK175) hb)
  replace HB := ak_ (below_step hb_ hb)
  (try clear hb)
  (try clear hb2)
  (try clear hk)
  (try clear hi)
  refine hK.out _ _ ⟨(blk_cell BK175.out 0).trans rfl, (blk_cell BK175.out 1).trans rfl, (blk_cell BK175.out 2).trans rfl⟩ (fun hHeld => ?_)
  clear hK K
  refine norm_ (a' := ?_) ?_ ?_
  rotate_left
  ·show Act.put _ (some 14) _ = _
   simp only [Act.put, List.setIfInBounds_toArray, List.set_cons_zero, List.set_cons_succ, i64_w, i32_w]
   rfl
  refine one_ (i := 6) (N := some 15) #[true, true, true, true, true, true, true, false, false] rfl rfl (one_of HT_.out (by kernel_rfl)) (by decide) (fun K hK => ?_)
  refine Kd.R_lit_step Kd.string _ 9 ?hg (N := 15) ?hd (xs := ([t177, t178] : List ByteArray)) (inner := [.string t177, .string t178]) (ok := fun _ => True) (okp := fun _ => True) ?hr ?hp (fun _ hk => hk) trivial (Below.refl _ _) (Nat.le_refl _) (by simp) ?_; (case hd => rfl); (case hg => rfl); (case hr => first | (go_simp; done) | (go_simp; rfl)); (case hp => exact (Reps.one (show Kd.M Kd.string _ _ _ t177 [.string t177] from rfl) (Reps.one (show Kd.M Kd.string _ _ _ t178 [.string t178] from rfl) (Reps.none _ _))))
  intro v180 w13 ho14 hb hg_ hnew_
  clear hg_ hnew_
  (first | rw [← Ny179.out] at ho14 | (simp only [Int.reduceToNat] at ho14; rw [← Ny179.out] at ho14))
  have HO181 := ak_ (Kd.R_lower ho14 (below_size hb_))
  replace BK175 := ak_ (blk_below (bk_ BK175) hb)
  replace HB := ak_ (below_step hb_ hb)
  clear hb ho14
  obtain ⟨Ao15, co15, eo15⟩ := Kd.R_slice HO181.out
  (first | subst eo15 | (injection eo15 with f1_ f2_ f3_; have f4_ := f1_.symm; have f5_ := f3_.symm; clear f1_ f2_ f3_; subst f4_; subst f5_))
  refine hK.out _ _ ⟨(blk_cell BK175.out 0).trans rfl, (blk_cell BK175.out 1).trans rfl, (blk_cell BK175.out 2).trans rfl⟩ (fun hHeld => ?_)
  clear hK K
  refine norm_ (a' := ?_) ?_ ?_
  rotate_left
  ·show Act.put _ (some 15) _ = _
   simp only [Act.put, List.setIfInBounds_toArray, List.set_cons_zero, List.set_cons_succ, i64_w, i32_w]
   rfl
  refine one_ (i := 7) (N := some 16) #[true, true, true, true, true, true, true, true, false] rfl rfl (one_of HT_.out (by kernel_rfl)) (by decide) (fun K hK => ?_)
  refine goes_ Tryd.func26 (by kernel_rfl) rfl #[.slice Ao15 y179.length co15] (by rfl) rfl rfl (ma1_ rfl) ?_
  with_reducible refine (impl_words.calls _ _ y179 t182 _ ?side1 ?side2 A6.out).mono ?_
  (case side1 => repeat (first | exact (Kd.R_reads' HO181.out).2.2 | (with_reducible refine Kd.C_alloc ?_ _) | (with_reducible refine Kd.C_drewN ?_ _) | (with_reducible refine Kd.C_drew ?_)))
  (case side2 => exact (Kd.R_reads' HO181.out).2.1)
  rintro e w16 ⟨rfl, hb⟩
  refine ⟨_, rfl, ?_⟩
  replace HO181 := ak_ (Kd.R_below (by (with_reducible repeat (first | apply Kd.R_alloc | apply Kd.R_drewN | apply Kd.R_drew)); exact HO181.out) hb)
  replace BK175 := ak_ (blk_below (bk_ BK175) hb)
  replace HB := ak_ (below_step hb_ hb)
  (try clear hb)
  (try clear hb2)
  (try clear hk)
  (try clear hi)
  refine hK.out _ _ ⟨(blk_cell BK175.out 0).trans rfl, (blk_cell BK175.out 1).trans rfl, (blk_cell BK175.out 2).trans rfl⟩ (fun hHeld => ?_)
  clear hK K
  refine norm_ (a' := ?_) ?_ ?_
  rotate_left
  ·show Act.put _ (some 16) _ = _
   simp only [Act.put, List.setIfInBounds_toArray, List.set_cons_zero, List.set_cons_succ, i64_w, i32_w]
   rfl
  refine pure_ (i := 8) (N := some 3) (v := ?_) (a' := ?_) #[true, true, true, true, true, true, true, true, true] rfl rfl (any_of HT_.out (by kernel_rfl)) (fun _ _ _ h => h) (Or.inl ⟨by rfl, ?_⟩) ?_ ?_; rotate_left; (intro w'; go_simp; with_reducible rfl); rotate_left; (simp only [Act.put, List.setIfInBounds_toArray, List.set_cons_zero, List.set_cons_succ, i64_w, i32_w]; rfl)
  refine done_ (done_of HT_.out (by kernel_rfl)) ?_
  obtain ⟨hcz17_0, hcz17_1, hcz17_2, hfz17_0, hfz17_1, hfz17_2⟩ := bc3_ BK175.out
  try go_wp2
  go_loopg [3, 20] k (fun kq v3 v20 w' => ∃ (x3_1 : ByteArray) (x20_1 : Int), v3 = .string x3_1 ∧ v20 = .int .i64 x20_1 ∧ Aside0 (impl_SideText.l0 kq x3_1 l0_0 (l0_0.length : Int) x20_1 = some r) ∧ Aside0 (kq ≤ k) ∧ Aside0 (w'.heap[gb175]? = some (.cells #[(.slice A0_0 l0_0.length c0_0), .int .i64 a0_1, .int .i64 a0_2] 35 (0, 0))) ∧ Aside0 (Below w.heap.size w w'))
  case atStart => exact ⟨(t182), (0), (by first | rfl | (simp; done) | (simp [*]; done)), (by first | rfl | (simp; done) | (simp [*]; done)), H', ⟨Nat.le_refl _⟩, ⟨by (with_reducible repeat (first | refine blk_drewN ?_ _ | refine blk_drew ?_ | refine blk_alloc ?_ _)); exact BK175.out⟩, ⟨hb_⟩⟩
  case round =>
   clear H'
   try clear c1
   try clear c2
   try clear p2
   try clear c3
   try clear c13
   try clear hcz17_0
   try clear hcz17_1
   try clear hcz17_2
   try clear hcz8_0
   try clear hcz8_1
   try clear hcz8_2
   try clear hfz17_0
   try clear hfz17_1
   try clear hfz17_2
   try clear hfz8_0
   try clear hfz8_1
   try clear hfz8_2
   obtain ⟨x3_1, x20_1, rfl, rfl, HA, HK1, BK175, HB⟩ := hrel
   cases gk with
   | zero => exact absurd HA.out (by simp [impl_SideText.l0])
   | succ k1 =>
    have H := HA.out
    clear HA
    simp only [impl_SideText.l0] at H
    by_cases c18 : x20_1 < (l0_0.length : Int)
    ·rw [if_pos c18] at H
     have c18b0 : decide (x20_1 < (l0_0.length : Int)) = true := decide_eq_true c18
     clear c18
     by_cases c19 : 0 ≤ x20_1
     ·rw [if_pos c19] at H
      have c19b0 : decide (0 ≤ x20_1) = true := decide_eq_true c19
      clear c19
      by_cases c20 : x20_1 < (l0_0.length : Int)
      ·rw [if_pos c20] at H
       have c20b0 : decide (x20_1 < (l0_0.length : Int)) = true := decide_eq_true c20
       clear c20
       replace H := Option.bind_eq_some_iff.mp H
       obtain ⟨t185, A210, H⟩ := H
       replace H : (if 1 + t185.size ≤ 9223372036854775807 then (if ((⟨#[32]⟩ : ByteArray) ++ t185).size + 1 ≤ 9223372036854775807 then ((impl_number.f ((rd_T67 l0_0 x20_1).f1)).bind fun t186 => (if (((⟨#[32]⟩ : ByteArray) ++ t185) ++ (⟨#[58]⟩ : ByteArray)).size + t186.size ≤ 9223372036854775807 then (if ((((⟨#[32]⟩ : ByteArray) ++ t185) ++ (⟨#[58]⟩ : ByteArray)) ++ t186).size + 1 ≤ 9223372036854775807 then ((impl_number.f ((rd_T67 l0_0 x20_1).f2)).bind fun t187 => (if (((((⟨#[32]⟩ : ByteArray) ++ t185) ++ (⟨#[58]⟩ : ByteArray)) ++ t186) ++ (⟨#[58]⟩ : ByteArray)).size + t187.size ≤ 9223372036854775807 then (if x3_1.size + ((((((⟨#[32]⟩ : ByteArray) ++ t185) ++ (⟨#[58]⟩ : ByteArray)) ++ t186) ++ (⟨#[58]⟩ : ByteArray)) ++ t187).size ≤ 9223372036854775807 then (impl_SideText.l0 k1 (x3_1 ++ ((((((⟨#[32]⟩ : ByteArray) ++ t185) ++ (⟨#[58]⟩ : ByteArray)) ++ t186) ++ (⟨#[58]⟩ : ByteArray)) ++ t187)) l0_0 (l0_0.length : Int) (wrap64 (x20_1 + 1))) else (none)) else (none))) else (none)) else (none))) else (none)) else (none)) = some r := H
       have A21 := Aside0.mk A210
       clear A210
       by_cases c22 : 1 + t185.size ≤ 9223372036854775807
       ·rw [if_pos c22] at H
        have c22b0 := eq_true c22
        have c22b1 : decide (1 + t185.size ≤ 9223372036854775807) = true := decide_eq_true c22
        try have c22b2 : (9223372036854775807 < 1 + t185.size) = False := eq_false (Nat.not_lt.2 c22)
        by_cases c23 : ((⟨#[32]⟩ : ByteArray) ++ t185).size + 1 ≤ 9223372036854775807
        ·rw [if_pos c23] at H
         have c23n3 := c23
         try simp only [ByteArray.size_append, show (⟨#[32]⟩ : ByteArray).size = 1 from rfl] at c23n3
         try have c23n4 := eq_true c23n3
         try have c23n5 := decide_eq_true c23n3
         try have c23n6 := eq_false (Nat.not_lt.2 c23n3)
         have c23b0 := eq_true c23
         have c23b1 : decide (((⟨#[32]⟩ : ByteArray) ++ t185).size + 1 ≤ 9223372036854775807) = true := decide_eq_true c23
         try have c23b2 : (9223372036854775807 < ((⟨#[32]⟩ : ByteArray) ++ t185).size + 1) = False := eq_false (Nat.not_lt.2 c23)
         replace H := Option.bind_eq_some_iff.mp H
         obtain ⟨t186, A240, H⟩ := H
         replace H : (if (((⟨#[32]⟩ : ByteArray) ++ t185) ++ (⟨#[58]⟩ : ByteArray)).size + t186.size ≤ 9223372036854775807 then (if ((((⟨#[32]⟩ : ByteArray) ++ t185) ++ (⟨#[58]⟩ : ByteArray)) ++ t186).size + 1 ≤ 9223372036854775807 then ((impl_number.f ((rd_T67 l0_0 x20_1).f2)).bind fun t187 => (if (((((⟨#[32]⟩ : ByteArray) ++ t185) ++ (⟨#[58]⟩ : ByteArray)) ++ t186) ++ (⟨#[58]⟩ : ByteArray)).size + t187.size ≤ 9223372036854775807 then (if x3_1.size + ((((((⟨#[32]⟩ : ByteArray) ++ t185) ++ (⟨#[58]⟩ : ByteArray)) ++ t186) ++ (⟨#[58]⟩ : ByteArray)) ++ t187).size ≤ 9223372036854775807 then (impl_SideText.l0 k1 (x3_1 ++ ((((((⟨#[32]⟩ : ByteArray) ++ t185) ++ (⟨#[58]⟩ : ByteArray)) ++ t186) ++ (⟨#[58]⟩ : ByteArray)) ++ t187)) l0_0 (l0_0.length : Int) (wrap64 (x20_1 + 1))) else (none)) else (none))) else (none)) else (none)) = some r := H
         have A24 := Aside0.mk A240
         clear A240
         by_cases c25 : (((⟨#[32]⟩ : ByteArray) ++ t185) ++ (⟨#[58]⟩ : ByteArray)).size + t186.size ≤ 9223372036854775807
         ·rw [if_pos c25] at H
          have c25n3 := c25
          try simp only [ByteArray.size_append, show (⟨#[32]⟩ : ByteArray).size = 1 from rfl, show (⟨#[58]⟩ : ByteArray).size = 1 from rfl] at c25n3
          try have c25n4 := eq_true c25n3
          try have c25n5 := decide_eq_true c25n3
          try have c25n6 := eq_false (Nat.not_lt.2 c25n3)
          have c25b0 := eq_true c25
          have c25b1 : decide ((((⟨#[32]⟩ : ByteArray) ++ t185) ++ (⟨#[58]⟩ : ByteArray)).size + t186.size ≤ 9223372036854775807) = true := decide_eq_true c25
          try have c25b2 : (9223372036854775807 < (((⟨#[32]⟩ : ByteArray) ++ t185) ++ (⟨#[58]⟩ : ByteArray)).size + t186.size) = False := eq_false (Nat.not_lt.2 c25)
          by_cases c26 : ((((⟨#[32]⟩ : ByteArray) ++ t185) ++ (⟨#[58]⟩ : ByteArray)) ++ t186).size + 1 ≤ 9223372036854775807
          ·rw [if_pos c26] at H
           have c26n3 := c26
           try simp only [ByteArray.size_append, show (⟨#[32]⟩ : ByteArray).size = 1 from rfl, show (⟨#[58]⟩ : ByteArray).size = 1 from rfl] at c26n3
           try have c26n4 := eq_true c26n3
           try have c26n5 := decide_eq_true c26n3
           try have c26n6 := eq_false (Nat.not_lt.2 c26n3)
           have c26b0 := eq_true c26
           have c26b1 : decide (((((⟨#[32]⟩ : ByteArray) ++ t185) ++ (⟨#[58]⟩ : ByteArray)) ++ t186).size + 1 ≤ 9223372036854775807) = true := decide_eq_true c26
           try have c26b2 : (9223372036854775807 < ((((⟨#[32]⟩ : ByteArray) ++ t185) ++ (⟨#[58]⟩ : ByteArray)) ++ t186).size + 1) = False := eq_false (Nat.not_lt.2 c26)
           replace H := Option.bind_eq_some_iff.mp H
           obtain ⟨t187, A270, H⟩ := H
           replace H : (if (((((⟨#[32]⟩ : ByteArray) ++ t185) ++ (⟨#[58]⟩ : ByteArray)) ++ t186) ++ (⟨#[58]⟩ : ByteArray)).size + t187.size ≤ 9223372036854775807 then (if x3_1.size + ((((((⟨#[32]⟩ : ByteArray) ++ t185) ++ (⟨#[58]⟩ : ByteArray)) ++ t186) ++ (⟨#[58]⟩ : ByteArray)) ++ t187).size ≤ 9223372036854775807 then (impl_SideText.l0 k1 (x3_1 ++ ((((((⟨#[32]⟩ : ByteArray) ++ t185) ++ (⟨#[58]⟩ : ByteArray)) ++ t186) ++ (⟨#[58]⟩ : ByteArray)) ++ t187)) l0_0 (l0_0.length : Int) (wrap64 (x20_1 + 1))) else (none)) else (none)) = some r := H
           have A27 := Aside0.mk A270
           clear A270
           by_cases c28 : (((((⟨#[32]⟩ : ByteArray) ++ t185) ++ (⟨#[58]⟩ : ByteArray)) ++ t186) ++ (⟨#[58]⟩ : ByteArray)).size + t187.size ≤ 9223372036854775807
           ·rw [if_pos c28] at H
            have c28n3 := c28
            try simp only [ByteArray.size_append, show (⟨#[32]⟩ : ByteArray).size = 1 from rfl, show (⟨#[58]⟩ : ByteArray).size = 1 from rfl] at c28n3
            try have c28n4 := eq_true c28n3
            try have c28n5 := decide_eq_true c28n3
            try have c28n6 := eq_false (Nat.not_lt.2 c28n3)
            have c28b0 := eq_true c28
            have c28b1 : decide ((((((⟨#[32]⟩ : ByteArray) ++ t185) ++ (⟨#[58]⟩ : ByteArray)) ++ t186) ++ (⟨#[58]⟩ : ByteArray)).size + t187.size ≤ 9223372036854775807) = true := decide_eq_true c28
            try have c28b2 : (9223372036854775807 < (((((⟨#[32]⟩ : ByteArray) ++ t185) ++ (⟨#[58]⟩ : ByteArray)) ++ t186) ++ (⟨#[58]⟩ : ByteArray)).size + t187.size) = False := eq_false (Nat.not_lt.2 c28)
            by_cases c29 : x3_1.size + ((((((⟨#[32]⟩ : ByteArray) ++ t185) ++ (⟨#[58]⟩ : ByteArray)) ++ t186) ++ (⟨#[58]⟩ : ByteArray)) ++ t187).size ≤ 9223372036854775807
            ·rw [if_pos c29] at H
             have c29n3 := c29
             try simp only [ByteArray.size_append, show (⟨#[32]⟩ : ByteArray).size = 1 from rfl, show (⟨#[58]⟩ : ByteArray).size = 1 from rfl] at c29n3
             try have c29n4 := eq_true c29n3
             try have c29n5 := decide_eq_true c29n3
             try have c29n6 := eq_false (Nat.not_lt.2 c29n3)
             have c29b0 := eq_true c29
             have c29b1 : decide (x3_1.size + ((((((⟨#[32]⟩ : ByteArray) ++ t185) ++ (⟨#[58]⟩ : ByteArray)) ++ t186) ++ (⟨#[58]⟩ : ByteArray)) ++ t187).size ≤ 9223372036854775807) = true := decide_eq_true c29
             try have c29b2 : (9223372036854775807 < x3_1.size + ((((((⟨#[32]⟩ : ByteArray) ++ t185) ++ (⟨#[58]⟩ : ByteArray)) ++ t186) ++ (⟨#[58]⟩ : ByteArray)) ++ t187).size) = False := eq_false (Nat.not_lt.2 c29)
             have H' := Aside0.mk H
             clear H
             have p183 : 0 ≤ (x20_1 : Int) := of_decide_eq_true (by first | (with_reducible assumption) | assumption)
             have q183 : x20_1 < (l0_0.length : Int) := of_decide_eq_true (by first | (with_reducible assumption) | assumption)
             obtain ⟨ad183, e183, hx183_0, hx183_1, hx183_2⟩ := at_T67 HR0_0.out x20_1 p183 q183
             cases e183
             replace hx183_0 := cx_ HB hx183_0
             replace hx183_1 := cx_ HB hx183_1
             replace hx183_2 := cx_ HB hx183_2
             replace p183 := eq_true p183
             replace q183 := eq_true q183
             try go_wp2_with (first | ((with_reducible refine gate_dst (N := 5) rfl ?_); refine be_ (N := 5) (cs := #[.int .i64 0, .int .i64 0, .int .i64 0]) (t := 67) ?_; intro gb184 hg w30 hbox hb; have BK184 := ak_ hbox; have GW184 := ak_ ((gs_ hg : w.heap.size ≤ gb184)); have GE184 := ak_ ((gs_ hg : w.heap.size ≤ gb184)); replace HB := ak_ (below_step hb_ hb); have NB175_184 := ak_ (nl_ hg (bk_ BK175)); have NB184_175 := ak_ (ng_ hg (bk_ BK175)); replace BK175 := ak_ (blk_below (bk_ BK175) hb); clear hb hbox hg; have hnb31 := NB184_175.out; have hnc31 := NB175_184.out; obtain ⟨hcz32_0, hcz32_1, hcz32_2, hfz32_0, hfz32_1, hfz32_2⟩ := bc3_ BK184.out))
             have n0_ : Aside0 ((((w30.setCell ⟨gb184, 0, none⟩ (.int .i64 ((rd_T67 l0_0 x20_1).f0))).setCell ⟨gb184, 1, none⟩ (.int .i64 ((rd_T67 l0_0 x20_1).f1))).setCell ⟨gb184, 2, none⟩ (.int .i64 ((rd_T67 l0_0 x20_1).f2))).heap[gb175]? = some (.cells #[.slice (some ad183) l0_0.length c0_0, .int .i64 a0_1, .int .i64 a0_2] 35 (0, 0))) := ⟨by (with_reducible repeat (first | refine blk_drewN ?_ _ | refine blk_drew ?_ | refine blk_alloc ?_ _)); refine blk_far ?_ NB175_184.out _; (with_reducible repeat (first | refine blk_drewN ?_ _ | refine blk_drew ?_ | refine blk_alloc ?_ _)); refine blk_far ?_ NB175_184.out _; (with_reducible repeat (first | refine blk_drewN ?_ _ | refine blk_drew ?_ | refine blk_alloc ?_ _)); refine blk_far ?_ NB175_184.out _; (with_reducible repeat (first | refine blk_drewN ?_ _ | refine blk_drew ?_ | refine blk_alloc ?_ _)); exact BK175.out⟩
             have n1_ : Aside0 ((((w30.setCell ⟨gb184, 0, none⟩ (.int .i64 ((rd_T67 l0_0 x20_1).f0))).setCell ⟨gb184, 1, none⟩ (.int .i64 ((rd_T67 l0_0 x20_1).f1))).setCell ⟨gb184, 2, none⟩ (.int .i64 ((rd_T67 l0_0 x20_1).f2))).heap[gb184]? = some (.cells #[.int .i64 ((rd_T67 l0_0 x20_1).f0), .int .i64 ((rd_T67 l0_0 x20_1).f1), .int .i64 ((rd_T67 l0_0 x20_1).f2)] 67 (0, 0))) := ⟨by (with_reducible repeat (first | refine blk_drewN ?_ _ | refine blk_drew ?_ | refine blk_alloc ?_ _)); refine blk_put (cs := #[.int .i64 ((rd_T67 l0_0 x20_1).f0), .int .i64 ((rd_T67 l0_0 x20_1).f1), .int .i64 0]) ?_ 2 _ rfl; (with_reducible repeat (first | refine blk_drewN ?_ _ | refine blk_drew ?_ | refine blk_alloc ?_ _)); refine blk_put (cs := #[.int .i64 ((rd_T67 l0_0 x20_1).f0), .int .i64 0, .int .i64 0]) ?_ 1 _ rfl; (with_reducible repeat (first | refine blk_drewN ?_ _ | refine blk_drew ?_ | refine blk_alloc ?_ _)); refine blk_put (cs := #[.int .i64 0, .int .i64 0, .int .i64 0]) ?_ 0 _ rfl; (with_reducible repeat (first | refine blk_drewN ?_ _ | refine blk_drew ?_ | refine blk_alloc ?_ _)); exact BK184.out⟩
             have n2_ : Aside0 (Below w.heap.size w (((w30.setCell ⟨gb184, 0, none⟩ (.int .i64 ((rd_T67 l0_0 x20_1).f0))).setCell ⟨gb184, 1, none⟩ (.int .i64 ((rd_T67 l0_0 x20_1).f1))).setCell ⟨gb184, 2, none⟩ (.int .i64 ((rd_T67 l0_0 x20_1).f2)))) := ⟨hb_⟩
             (try clear BK175)
             (try clear BK184)
             (try clear HB)
             generalize (((w30.setCell ⟨gb184, 0, none⟩ (.int .i64 ((rd_T67 l0_0 x20_1).f0))).setCell ⟨gb184, 1, none⟩ (.int .i64 ((rd_T67 l0_0 x20_1).f1))).setCell ⟨gb184, 2, none⟩ (.int .i64 ((rd_T67 l0_0 x20_1).f2))) = w33 at n0_ n1_ n2_ ⊢
             have BK175 := n0_
             have BK184 := n1_
             have HB := n2_
             clear n0_ n1_ n2_
             replace BK175 := ak_ (blk_drew BK175.out)
             replace BK184 := ak_ (blk_drew BK184.out)
             replace HB := ak_ (below_drew1 HB.out)
             refine start_ (n := 17) (S := fun w' => w'.cell? ⟨gb184, 0, none⟩ = some (.int .i64 ((rd_T67 l0_0 x20_1).f0)) ∧ w'.cell? ⟨gb184, 1, none⟩ = some (.int .i64 ((rd_T67 l0_0 x20_1).f1)) ∧ w'.cell? ⟨gb184, 2, none⟩ = some (.int .i64 ((rd_T67 l0_0 x20_1).f2))) (ds := []) #[false, false, false, false, false, false, false, false, false, false, false, false, false, false, false, false, false] (by kernel_rfl) rfl rfl ⟨(blk_cell BK184.out 0).trans rfl, (blk_cell BK184.out 1).trans rfl, (blk_cell BK184.out 2).trans rfl⟩ (fun hHeld => ?_); refine with_tabW impl_SideText.tab7 impl_SideText.bits7 (fun HT_ HW_ => ?_)
             generalize w33.drew = w34 at BK175 BK184 HB hHeld ⊢
             refine pure_ (i := 0) (N := some 24) (v := ?_) (a' := ?_) #[true, false, false, false, false, false, false, false, false, false, false, false, false, false, false, false, false] rfl rfl (any_of HT_.out (by kernel_rfl)) (fun _ _ _ h => h) (Or.inl ⟨by rfl, ?_⟩) ?_ ?_; rotate_left; (intro w'; go_simp; with_reducible rfl); rotate_left; (simp only [Act.put, List.setIfInBounds_toArray, List.set_cons_zero, List.set_cons_succ, i64_w, i32_w]; rfl)
             refine pure_ (i := 1) (N := some 25) (v := ?_) (a' := ?_) #[true, true, false, false, false, false, false, false, false, false, false, false, false, false, false, false, false] rfl rfl (any_of HT_.out (by kernel_rfl)) (fun _ _ _ h => h) (Or.inl ⟨by rfl, ?_⟩) ?_ ?_; rotate_left; (intro w'; go_simp; with_reducible rfl); rotate_left; (simp only [Act.put, List.setIfInBounds_toArray, List.set_cons_zero, List.set_cons_succ, i64_w, i32_w]; rfl)
             refine pure_ (i := 6) (N := some 30) (v := ?_) (a' := ?_) #[true, true, false, false, false, false, true, false, false, false, false, false, false, false, false, false, false] rfl rfl (any_of HT_.out (by kernel_rfl)) (fun _ _ _ h => h) (Or.inl ⟨by rfl, ?_⟩) ?_ ?_; rotate_left; (intro w'; go_simp; with_reducible rfl); rotate_left; (simp only [Act.put, List.setIfInBounds_toArray, List.set_cons_zero, List.set_cons_succ, i64_w, i32_w]; rfl)
             refine pure_ (i := 11) (N := some 35) (v := ?_) (a' := ?_) #[true, true, false, false, false, false, true, false, false, false, false, true, false, false, false, false, false] rfl rfl (any_of HT_.out (by kernel_rfl)) (fun _ _ _ h => h) (Or.inl ⟨by rfl, ?_⟩) ?_ ?_; rotate_left; (intro w'; go_simp; with_reducible rfl); rotate_left; (simp only [Act.put, List.setIfInBounds_toArray, List.set_cons_zero, List.set_cons_succ, i64_w, i32_w]; rfl)
             refine take_ (i := 2) (N := some 26) (v := ?_) (a' := ?_) #[true, true, true, false, false, false, true, false, false, false, false, true, false, false, false, false, false] rfl rfl (take_ofW HT_.out HW_.out (by kernel_rfl)) (fun _ _ _ h => h) (Or.inl ⟨by rfl, ?_⟩) hHeld ?_ ?_; rotate_left; (rintro w' ⟨s0, s1, s2⟩; go_simp; with_reducible rfl); rotate_left; (simp only [Act.put, List.setIfInBounds_toArray, List.set_cons_zero, List.set_cons_succ, i64_w, i32_w]; rfl)
             refine take_ (i := 7) (N := some 31) (v := ?_) (a' := ?_) #[true, true, true, false, false, false, true, true, false, false, false, true, false, false, false, false, false] rfl rfl (take_ofW HT_.out HW_.out (by kernel_rfl)) (fun _ _ _ h => h) (Or.inl ⟨by rfl, ?_⟩) hHeld ?_ ?_; rotate_left; (rintro w' ⟨s0, s1, s2⟩; go_simp; with_reducible rfl); rotate_left; (simp only [Act.put, List.setIfInBounds_toArray, List.set_cons_zero, List.set_cons_succ, i64_w, i32_w]; rfl)
             refine take_ (i := 12) (N := some 36) (v := ?_) (a' := ?_) #[true, true, true, false, false, false, true, true, false, false, false, true, true, false, false, false, false] rfl rfl (take_ofW HT_.out HW_.out (by kernel_rfl)) (fun _ _ _ h => h) (Or.inl ⟨by rfl, ?_⟩) hHeld ?_ ?_; rotate_left; (rintro w' ⟨s0, s1, s2⟩; go_simp; with_reducible rfl); rotate_left; (simp only [Act.put, List.setIfInBounds_toArray, List.set_cons_zero, List.set_cons_succ, i64_w, i32_w]; rfl)
             refine one_ (i := 3) (N := some 27) #[true, true, true, true, false, false, true, true, false, false, false, true, true, false, false, false, false] rfl rfl (one_of HT_.out (by kernel_rfl)) (by decide) (fun K hK => ?_)
             refine goes_ Tryd.func25 (by kernel_rfl) rfl #[.int .i64 ((rd_T67 l0_0 x20_1).f0)] (by rfl) rfl rfl (ma1_ rfl) ?_
             with_reducible refine (impl_number.calls ((rd_T67 l0_0 x20_1).f0) t185 _ ?sideL A21.out).mono ?_
             (case sideL => refine lay_at HLAY.out ?_; repeat (first | (with_reducible first | exact HB.out | apply below_alloc | apply pw_below_drewN | apply below_drew1 | refine below_set ?_ GE175.out | refine below_set ?_ GE184.out) | exact HB.out))
             rintro e w35 ⟨rfl, hb⟩
             refine ⟨_, rfl, ?_⟩
             replace BK175 := ak_ (blk_below (bk_ BK175) hb)
             replace BK184 := ak_ (blk_below (bk_ BK184) hb)
             replace HB := ak_ (below_step hb_ hb)
             (try clear hb)
             (try clear hb2)
             (try clear hk)
             (try clear hi)
             refine hK.out _ _ ⟨(blk_cell BK184.out 0).trans rfl, (blk_cell BK184.out 1).trans rfl, (blk_cell BK184.out 2).trans rfl⟩ (fun hHeld => ?_)
             clear hK K
             refine norm_ (a' := ?_) ?_ ?_
             rotate_left
             ·show Act.put _ (some 27) _ = _
              simp only [Act.put, List.setIfInBounds_toArray, List.set_cons_zero, List.set_cons_succ, i64_w, i32_w]
              rfl
             refine pure_ (i := 4) (N := some 28) (v := ?_) (a' := ?_) #[true, true, true, true, true, false, true, true, false, false, false, true, true, false, false, false, false] rfl rfl (any_of HT_.out (by kernel_rfl)) (fun _ _ _ h => h) (Or.inl ⟨by rfl, ?_⟩) ?_ ?_; rotate_left; (intro w'; go_simp; with_reducible rfl); rotate_left; (simp only [Act.put, List.setIfInBounds_toArray, List.set_cons_zero, List.set_cons_succ, i64_w, i32_w]; rfl)
             refine pure_ (i := 5) (N := some 29) (v := ?_) (a' := ?_) #[true, true, true, true, true, true, true, true, false, false, false, true, true, false, false, false, false] rfl rfl (any_of HT_.out (by kernel_rfl)) (fun _ _ _ h => h) (Or.inl ⟨by rfl, ?_⟩) ?_ ?_; rotate_left; (intro w'; go_simp; with_reducible rfl); rotate_left; (simp only [Act.put, List.setIfInBounds_toArray, List.set_cons_zero, List.set_cons_succ, i64_w, i32_w]; rfl)
             refine one_ (i := 8) (N := some 32) #[true, true, true, true, true, true, true, true, true, false, false, true, true, false, false, false, false] rfl rfl (one_of HT_.out (by kernel_rfl)) (by decide) (fun K hK => ?_)
             refine goes_ Tryd.func25 (by kernel_rfl) rfl #[.int .i64 ((rd_T67 l0_0 x20_1).f1)] (by rfl) rfl rfl (ma1_ rfl) ?_
             with_reducible refine (impl_number.calls ((rd_T67 l0_0 x20_1).f1) t186 _ ?sideL A24.out).mono ?_
             (case sideL => refine lay_at HLAY.out ?_; repeat (first | (with_reducible first | exact HB.out | apply below_alloc | apply pw_below_drewN | apply below_drew1 | refine below_set ?_ GE175.out | refine below_set ?_ GE184.out) | exact HB.out))
             rintro e w36 ⟨rfl, hb⟩
             refine ⟨_, rfl, ?_⟩
             replace BK175 := ak_ (blk_below (bk_ BK175) hb)
             replace BK184 := ak_ (blk_below (bk_ BK184) hb)
             replace HB := ak_ (below_step hb_ hb)
             (try clear hb)
             (try clear hb2)
             (try clear hk)
             (try clear hi)
             refine hK.out _ _ ⟨(blk_cell BK184.out 0).trans rfl, (blk_cell BK184.out 1).trans rfl, (blk_cell BK184.out 2).trans rfl⟩ (fun hHeld => ?_)
             clear hK K
             refine norm_ (a' := ?_) ?_ ?_
             rotate_left
             ·show Act.put _ (some 32) _ = _
              simp only [Act.put, List.setIfInBounds_toArray, List.set_cons_zero, List.set_cons_succ, i64_w, i32_w]
              rfl
             refine pure_ (i := 9) (N := some 33) (v := ?_) (a' := ?_) #[true, true, true, true, true, true, true, true, true, true, false, true, true, false, false, false, false] rfl rfl (any_of HT_.out (by kernel_rfl)) (fun _ _ _ h => h) (Or.inl ⟨by rfl, ?_⟩) ?_ ?_; rotate_left; (intro w'; go_simp; with_reducible rfl); rotate_left; (simp only [Act.put, List.setIfInBounds_toArray, List.set_cons_zero, List.set_cons_succ, i64_w, i32_w]; rfl)
             refine pure_ (i := 10) (N := some 34) (v := ?_) (a' := ?_) #[true, true, true, true, true, true, true, true, true, true, true, true, true, false, false, false, false] rfl rfl (any_of HT_.out (by kernel_rfl)) (fun _ _ _ h => h) (Or.inl ⟨by rfl, ?_⟩) ?_ ?_; rotate_left; (intro w'; go_simp; with_reducible rfl); rotate_left; (simp only [Act.put, List.setIfInBounds_toArray, List.set_cons_zero, List.set_cons_succ, i64_w, i32_w]; rfl)
             refine one_ (i := 13) (N := some 37) #[true, true, true, true, true, true, true, true, true, true, true, true, true, true, false, false, false] rfl rfl (one_of HT_.out (by kernel_rfl)) (by decide) (fun K hK => ?_)
             refine goes_ Tryd.func25 (by kernel_rfl) rfl #[.int .i64 ((rd_T67 l0_0 x20_1).f2)] (by rfl) rfl rfl (ma1_ rfl) ?_
             with_reducible refine (impl_number.calls ((rd_T67 l0_0 x20_1).f2) t187 _ ?sideL A27.out).mono ?_
             (case sideL => refine lay_at HLAY.out ?_; repeat (first | (with_reducible first | exact HB.out | apply below_alloc | apply pw_below_drewN | apply below_drew1 | refine below_set ?_ GE175.out | refine below_set ?_ GE184.out) | exact HB.out))
             rintro e w37 ⟨rfl, hb⟩
             refine ⟨_, rfl, ?_⟩
             replace BK175 := ak_ (blk_below (bk_ BK175) hb)
             replace BK184 := ak_ (blk_below (bk_ BK184) hb)
             replace HB := ak_ (below_step hb_ hb)
             (try clear hb)
             (try clear hb2)
             (try clear hk)
             (try clear hi)
             refine hK.out _ _ ⟨(blk_cell BK184.out 0).trans rfl, (blk_cell BK184.out 1).trans rfl, (blk_cell BK184.out 2).trans rfl⟩ (fun hHeld => ?_)
             clear hK K
             refine norm_ (a' := ?_) ?_ ?_
             rotate_left
             ·show Act.put _ (some 37) _ = _
              simp only [Act.put, List.setIfInBounds_toArray, List.set_cons_zero, List.set_cons_succ, i64_w, i32_w]
              rfl
             refine pure_ (i := 14) (N := some 38) (v := ?_) (a' := ?_) #[true, true, true, true, true, true, true, true, true, true, true, true, true, true, true, false, false] rfl rfl (any_of HT_.out (by kernel_rfl)) (fun _ _ _ h => h) (Or.inl ⟨by rfl, ?_⟩) ?_ ?_; rotate_left; (intro w'; go_simp; with_reducible rfl); rotate_left; (simp only [Act.put, List.setIfInBounds_toArray, List.set_cons_zero, List.set_cons_succ, i64_w, i32_w]; rfl)
             refine pure_ (i := 15) (N := some 39) (v := ?_) (a' := ?_) #[true, true, true, true, true, true, true, true, true, true, true, true, true, true, true, true, false] rfl rfl (any_of HT_.out (by kernel_rfl)) (fun _ _ _ h => h) (Or.inl ⟨by rfl, ?_⟩) ?_ ?_; rotate_left; (intro w'; go_simp; with_reducible rfl); rotate_left; (simp only [Act.put, List.setIfInBounds_toArray, List.set_cons_zero, List.set_cons_succ, i64_w, i32_w]; rfl)
             refine pure_ (i := 16) (N := some 3) (v := ?_) (a' := ?_) #[true, true, true, true, true, true, true, true, true, true, true, true, true, true, true, true, true] rfl rfl (any_of HT_.out (by kernel_rfl)) (fun _ _ _ h => h) (Or.inl ⟨by rfl, ?_⟩) ?_ ?_; rotate_left; (intro w'; go_simp; with_reducible rfl); rotate_left; (simp only [Act.put, List.setIfInBounds_toArray, List.set_cons_zero, List.set_cons_succ, i64_w, i32_w]; rfl)
             refine done_ (done_of HT_.out (by kernel_rfl)) ?_
             try go_wp2
             go_roundg k1
             case measure => have := HK1.out; omega
             case rel => exact ⟨(x3_1 ++ ((((((⟨#[32]⟩ : ByteArray) ++ t185) ++ (⟨#[58]⟩ : ByteArray)) ++ t186) ++ (⟨#[58]⟩ : ByteArray)) ++ t187)), (wrap64 (x20_1 + 1)), (by first | rfl | (simp; done) | (simp [*]; done)), (by first | rfl | (simp; done) | (simp [*]; done)), H', ⟨by have := HK1.out; omega⟩, ⟨by (with_reducible repeat (first | refine blk_drewN ?_ _ | refine blk_drew ?_ | refine blk_alloc ?_ _)); exact BK175.out⟩, ⟨hb_⟩⟩
            ·rw [if_neg c29] at H
             exact absurd H (by simp)
           ·rw [if_neg c28] at H
            exact absurd H (by simp)
          ·rw [if_neg c26] at H
           exact absurd H (by simp)
         ·rw [if_neg c25] at H
          exact absurd H (by simp)
        ·rw [if_neg c23] at H
         exact absurd H (by simp)
       ·rw [if_neg c22] at H
        exact absurd H (by simp)
      ·rw [if_neg c20] at H
       exact absurd H (by simp)
     ·rw [if_neg c19] at H
      exact absurd H (by simp)
    ·rw [if_neg c18] at H
     have c18b0 : decide (x20_1 < (l0_0.length : Int)) = false := decide_eq_false c18
     clear c18
     obtain rfl := Option.some.inj H
     go_wp2
     go_ret
     exact ⟨ew_, hb_⟩
 ·replace c3 := Bool.eq_false_iff.mpr c3
  subst c3
  rw [if_neg (show ¬ (false = true) by decide)] at H
  obtain rfl := Option.some.inj H
  go_enter Tryd.func13, Tryd.ntmps13
  go_wp2_with (first | ((with_reducible refine gate_dst (N := 1) rfl ?_); refine be_ (N := 1) (cs := #[.slice A0_0 l0_0.length c0_0, .int .i64 a0_1, .int .i64 a0_2]) (t := 35) ?_; intro gb175 hg w38 hbox hb; have BK175 := ak_ hbox; have GW175 := ak_ ((gs_ hg : w.heap.size ≤ gb175)); have GE175 := ak_ ((gs_ hg : w.heap.size ≤ gb175)); replace HB := ak_ (below_step hb_ hb); clear hb hbox hg; obtain ⟨hcz39_0, hcz39_1, hcz39_2, hfz39_0, hfz39_1, hfz39_2⟩ := bc3_ BK175.out) | ((with_reducible refine gate_callee (f := 30) rfl ?_); refine goesL_ (some 7) rfl rfl Tryd.func30 (by kernel_rfl) rfl #[.agg #[.slice A0_0 l0_0.length c0_0, .int .i64 a0_1, .int .i64 a0_2]] rfl (ma1_ rfl) ?_; (with_reducible refine (impl_SideOk.calls k _ _ l0_0 a0_1 a0_2 false _ ?side1 ?side2 A2.out).mono ?_); (case side1 => exact kc_ HR0_0); (case side2 => exact HC0_0.out); rintro e w40 ⟨rfl, hb⟩; refine ⟨_, rfl, ?_⟩; replace BK175 := ak_ (blk_below (bk_ BK175) hb); replace HB := ak_ (below_step hb_ hb); (try clear hb)))
  go_ret
  exact ⟨ew_, hb_⟩

end Go.Proofs.YtblfoelddakelaaDoor.P
