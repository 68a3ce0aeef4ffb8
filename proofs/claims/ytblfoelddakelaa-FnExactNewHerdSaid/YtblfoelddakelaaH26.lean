-- PRINTED by print.py (a twelfth state) out of the translation. Not trusted: Lean checks it.
import Derived.Test.YtblfoelddakelaaH0
namespace Go.Proofs.Ytblfoelddakelaa.H
open Go.RowKit Go.Proofs.YtblfoelddakelaaW.PrintWords Go.Proofs.YtblfoelddakelaaW.PrintLast Go.Proofs.YtblfoelddakelaaW.PrintMore
attribute [local go_sem] max2_int min2_int max_two min_two max_three min_three max_four min_four   -- for this text's walks alone
set_option linter.unusedVariables false
set_option linter.unusedSimpArgs false

/-! ### spec_l08Side: function 78 -/
def spec_l08Side.l0 : Nat → Int → List (S71) → Int → Int → List (S71) → Int → Int → Option ((List (S71)) × Int × Int)
  | 0, _, _, _, _, _, _, _ => none
  | k + 1, x4, x257000, x257001, x257002, x259000, x259001, x259002 => if x4 < (x257000.length : Int) then (if 0 ≤ x4 then (if x259000.length < 5864062014805 then (spec_l08Side.l0 k (wrap64 (x4 + 1)) x257000 x257001 x257002 (x259000 ++ [(⟨(rd_T71 x257000 x4).f0, (rd_T71 x257000 x4).f1, (rd_T71 x257000 x4).f2⟩ : S71)]) x259001 x259002) else (none)) else (none)) else (some (x259000, x259001, x259002))
def spec_l08Side.f (k : Nat) (l0_0 : List (S71)) (a0_1 : Int) (a0_2 : Int) : Option ((List (S71)) × Int × Int) := spec_l08Side.l0 k 0 l0_0 a0_1 a0_2 ([] : List (S71)) a0_1 a0_2
theorem spec_l08Side.mono_l : ∀ k, (∀ y0 y1 y2 y3 y4 y5 y6, LeO (spec_l08Side.l0 k y0 y1 y2 y3 y4 y5 y6) (spec_l08Side.l0 (k + 1) y0 y1 y2 y3 y4 y5 y6))
  | 0 => fun _ _ _ _ _ _ _ r h => by simp [spec_l08Side.l0] at h
  | k + 1 => by
    have ih0 := spec_l08Side.mono_l k
    · intro y0 y1 y2 y3 y4 y5 y6
      unfold spec_l08Side.l0
      repeat' with_reducible first | exact ih0 _ _ _ _ _ _ _ | exact LeO.refl _ | exact LeO.none _ | refine LeO.ite ?_ ?_ | refine LeO.bind ?_ (fun _ => ?_)
theorem spec_l08Side.mono : ∀ a0 a1 a2 k, LeO (spec_l08Side.f k a0 a1 a2) (spec_l08Side.f (k + 1) a0 a1 a2) := by
  intro a0 a1 a2 k
  have ih0 := spec_l08Side.mono_l k
  unfold spec_l08Side.f
  repeat' with_reducible first | exact ih0 _ _ _ _ _ _ _ | exact LeO.refl _ | exact LeO.none _ | refine LeO.ite ?_ ?_ | refine LeO.bind ?_ (fun _ => ?_)
def spec_l08Side.T5 : Bool × List (List Nat × List Nat) := (true, [([], []), ([0], [0]), ([], []), ([2], [2]), ([], []), ([3, 4], [3, 4]), ([5], [5]), ([6], [6]), ([1, 7], [1, 7]), ([0, 1, 2, 3, 4, 5, 6, 7, 8], []), ([9, 8, 8, 0, 1, 2, 3, 4, 5, 6, 7, 8], [8, 9])])
def spec_l08Side.B5 : List Nat := [0, 1, 0, 4, 0, 28, 60, 124, 255, 511, 1023]
theorem spec_l08Side.tab5 : rtab .any (opsOf Try.f78 5) = spec_l08Side.T5 := by kernel_rfl
theorem spec_l08Side.bits5 : waitsOk spec_l08Side.T5.2 spec_l08Side.B5 = true := by kernel_rfl
set_option maxHeartbeats 8000000 in
set_option maxRecDepth 100000 in
theorem spec_l08Side.calls (k : Nat) (A0_0 : Option Addr) (c0_0 : Nat) (l0_0 : List (S71)) (a0_1 : Int) (a0_2 : Int) (r1 : List (S71)) (r2 : Int) (r3 : Int) (w : World) (hr0_0 : Kd.C k71 w A0_0 l0_0.length l0_0) (hc0_0 : l0_0.length ≤ c0_0) (h : spec_l08Side.f k l0_0 a0_1 a0_2 = some (r1, r2, r3)) :
  Calls Try.prog 78 #[.agg #[.slice A0_0 l0_0.length c0_0, .int .i64 a0_1, .int .i64 a0_2]] w fun e w' => ∃ v0_ : Value, e = .returned (.agg #[v0_, .int .i64 r2, .int .i64 r3]) ∧ Kd.R k71 71 w' w.heap.size (fun _ => True) v0_ r1 ∧ Below w.heap.size w w' := by
 have hu29 := Try.underlying29
 have hu71 := Try.underlying71
 have HR0_0 := ak_ hr0_0
 have HC0_0 := ak_ hc0_0
 clear hr0_0 hc0_0
 have HB := ak_ (Below.refl w.heap.size w)
 have H : (spec_l08Side.l0 k 0 l0_0 a0_1 a0_2 ([] : List (S71)) a0_1 a0_2) = some (r1, r2, r3) := h
 clear h
 have H' := ak_ H
 clear H
 go_enter Try.func78, Try.ntmps78
 go_wp2_with (first | ((with_reducible refine gate_dst (N := 1) rfl ?_); refine be_ (N := 1) (cs := #[.slice A0_0 l0_0.length c0_0, .int .i64 a0_1, .int .i64 a0_2]) (t := 29) ?_; intro gb256 hg w2 hbox hb; have BK256 := ak_ hbox; have GW256 := ak_ ((gs_ hg : w.heap.size ≤ gb256)); have GE256 := ak_ ((gs_ hg : w.heap.size ≤ gb256)); replace HB := ak_ (below_step hb_ hb); clear hb hbox hg) | ((with_reducible refine gate_dst (N := 2) rfl ?_); refine be_ (N := 2) (cs := #[.slice none 0 0, .int .i64 0, .int .i64 0]) (t := 29) ?_; intro gb257 hg w3 hbox hb; have BK257 := ak_ hbox; have GW257 := ak_ ((gs_ hg : w.heap.size ≤ gb257)); have GE257 := ak_ ((gs_ hg : w.heap.size ≤ gb257)); replace HB := ak_ (below_step hb_ hb); have NB256_257 := ak_ (nl_ hg (bk_ BK256)); have NB257_256 := ak_ (ng_ hg (bk_ BK256)); replace BK256 := ak_ (blk_below (bk_ BK256) hb); clear hb hbox hg; have hnb4 := NB256_257.out; have hnc4 := NB257_256.out; obtain ⟨hcz5_0, hcz5_1, hcz5_2, hfz5_0, hfz5_1, hfz5_2⟩ := bc3_ BK256.out) | ((with_reducible refine gate_dst (N := 3) rfl ?_); refine be_ (N := 3) (cs := #[.slice none 0 0, .int .i64 0, .int .i64 0]) (t := 29) ?_; intro gb258 hg w6 hbox hb; have BK258 := ak_ hbox; have GW258 := ak_ ((gs_ hg : w.heap.size ≤ gb258)); have GE258 := ak_ ((gs_ hg : w.heap.size ≤ gb258)); replace HB := ak_ (below_step hb_ hb); have NB256_258 := ak_ (nl_ hg (bk_ BK256)); have NB258_256 := ak_ (ng_ hg (bk_ BK256)); replace BK256 := ak_ (blk_below (bk_ BK256) hb); have NB257_258 := ak_ (nl_ hg (bk_ BK257)); have NB258_257 := ak_ (ng_ hg (bk_ BK257)); replace BK257 := ak_ (blk_below (bk_ BK257) hb); clear hb hbox hg; have hnb7 := NB258_256.out; have hnc7 := NB256_258.out; have hnb8 := NB258_257.out; have hnc8 := NB257_258.out; obtain ⟨hcz9_0, hcz9_1, hcz9_2, hfz9_0, hfz9_1, hfz9_2⟩ := bc3_ BK258.out))
 go_loopg [4] k (fun kq v4 w' => ∃ (x4_1 : Int) (x259000_1 : List (S71)) (u259000 : Value), v4 = .int .i64 x4_1 ∧ Aside0 (spec_l08Side.l0 kq x4_1 l0_0 a0_1 a0_2 x259000_1 a0_1 a0_2 = some (r1, r2, r3)) ∧ Aside0 (kq ≤ k) ∧ Aside0 (Kd.R k71 71 w' w.heap.size (fun _ => True) u259000 x259000_1) ∧ Aside0 (w'.heap[gb256]? = some (.cells #[(.slice A0_0 l0_0.length c0_0), .int .i64 a0_1, .int .i64 a0_2] 29 (0, 0))) ∧ Aside0 (w'.heap[gb257]? = some (.cells #[(.slice none 0 0), .int .i64 0, .int .i64 0] 29 (0, 0))) ∧ Aside0 (w'.heap[gb258]? = some (.cells #[u259000, .int .i64 a0_1, .int .i64 a0_2] 29 (0, 0))) ∧ Aside0 (Below w.heap.size w w'))
 case atStart => exact ⟨(0), (([] : List (S71))), (.slice none 0 0), (by first | rfl | (simp; done) | (simp [*]; done)), H', ⟨Nat.le_refl _⟩, ⟨by first | exact Kd.R_nil _ _ _ _ _ | exact Kd.N_nil _ _ _ _ _ | exact Kd.V_nil _ _ _ _ _ | exact Kd.Q_nil _ _ _ _ _ | exact Kd.S_nil _ _ _ _ _⟩, ⟨bq_ BK256⟩, ⟨bq_ BK257⟩, ⟨bq_ BK258⟩, ⟨hb_⟩⟩
 case round =>
  clear H'
  try clear p2
  try clear c4
  try clear c7
  try clear c8
  (try clear hcz5_0 hcz5_1 hcz5_2 hfz5_0 hfz5_1 hfz5_2); (try clear hcz9_0 hcz9_1 hcz9_2 hfz9_0 hfz9_1 hfz9_2)
  obtain ⟨x4_1, x259000_1, u259000, rfl, HA, HK1, HO_259000, BK256, BK257, BK258, HB⟩ := hrel
  cases gk with
  | zero => exact absurd HA.out (by simp [spec_l08Side.l0])
  | succ k1 =>
   have H := HA.out
   clear HA
   simp only [spec_l08Side.l0] at H
   by_cases c10 : x4_1 < (l0_0.length : Int)
   ·rw [if_pos c10] at H
    have c10b0 : decide (x4_1 < (l0_0.length : Int)) = true := decide_eq_true c10
    clear c10
    by_cases c11 : 0 ≤ x4_1
    ·rw [if_pos c11] at H
     have c11b0 : decide (0 ≤ x4_1) = true := decide_eq_true c11
     clear c11
     by_cases c12 : x259000_1.length < 5864062014805
     ·rw [if_pos c12] at H
      have LMc12 := ak_ c12
      clear c12
      obtain ⟨y260, hy260⟩ : ∃ y_ : List (S71), y_ = (x259000_1 ++ [(⟨(rd_T71 l0_0 x4_1).f0, (rd_T71 l0_0 x4_1).f1, (rd_T71 l0_0 x4_1).f2⟩ : S71)]) := ⟨_, rfl⟩
      replace H : (spec_l08Side.l0 k1 (wrap64 (x4_1 + 1)) l0_0 a0_1 a0_2 y260 a0_1 a0_2) = some (r1, r2, r3) := by first | (rw [hy260]; with_reducible exact H) | (have H2_ := (Option.bind_some _ _).symm.trans H; rw [hy260]; with_reducible exact H2_) | (have H2_ := (Option.bind_some _ _).symm.trans H; with_reducible exact H2_) | with_reducible exact H | (rw [hy260]; exact H) | exact H
      have Ny260 := ak_ hy260
      clear hy260
      have H' := ak_ H
      clear H
      have hnb13 := NB256_257.out
      have hnc13 := NB257_256.out
      have hnb14 := NB256_258.out
      have hnc14 := NB258_256.out
      obtain ⟨hcz15_0, hcz15_1, hcz15_2, hfz15_0, hfz15_1, hfz15_2⟩ := bc3_ BK256.out
      try go_wp2
      replace HO_259000 := ak_ (Kd.R_drew HO_259000.out)
      replace BK256 := ak_ (blk_drew BK256.out)
      replace BK257 := ak_ (blk_drew BK257.out)
      replace BK258 := ak_ (blk_drew BK258.out)
      replace HB := ak_ (below_drew1 HB.out)
      have p259 : 0 ≤ (x4_1 : Int) := of_decide_eq_true (by first | (with_reducible assumption) | assumption)
      have q259 : x4_1 < (l0_0.length : Int) := of_decide_eq_true (by first | (with_reducible assumption) | assumption)
      obtain ⟨ad259, e259, hx259_0, hx259_1, hx259_2⟩ := at_T71 HR0_0.out x4_1 p259 q259
      have hw259_2 := hx259_2
      have hw259_1 := hx259_1
      have hw259_0 := hx259_0
      cases e259
      replace hx259_0 := cx_ HB hx259_0
      replace hx259_1 := cx_ HB hx259_1
      replace hx259_2 := cx_ HB hx259_2
      replace p259 := eq_true p259
      replace q259 := eq_true q259
      refine start_ (n := 11) (S := fun w' => w'.cell? ⟨gb258, 0, none⟩ = some (u259000) ∧ w'.cell? ⟨gb258, 1, none⟩ = some (.int .i64 a0_1) ∧ w'.cell? ⟨gb258, 2, none⟩ = some (.int .i64 a0_2) ∧ w'.cell? ⟨gb256, 0, none⟩ = some (.slice (some ad259) l0_0.length c0_0) ∧ w'.cell? ⟨gb256, 1, none⟩ = some (.int .i64 a0_1) ∧ w'.cell? ⟨gb256, 2, none⟩ = some (.int .i64 a0_2) ∧ w'.cell? (ad259.add ((x4_1).toNat * 3)) = some (.int .i64 ((rd_T71 l0_0 x4_1).f0)) ∧ w'.cell? ⟨(ad259.add ((x4_1).toNat * 3)).block, (ad259.add ((x4_1).toNat * 3)).off + 1, none⟩ = some (.int .i64 ((rd_T71 l0_0 x4_1).f1)) ∧ w'.cell? ⟨(ad259.add ((x4_1).toNat * 3)).block, (ad259.add ((x4_1).toNat * 3)).off + 2, none⟩ = some (.int .i64 ((rd_T71 l0_0 x4_1).f2))) (ds := [10]) #[false, false, false, false, false, false, false, false, false, false, false] (by kernel_rfl) rfl rfl ⟨(blk_cell BK258.out 0).trans rfl, (blk_cell BK258.out 1).trans rfl, (blk_cell BK258.out 2).trans rfl, (blk_cell BK256.out 0).trans rfl, (blk_cell BK256.out 1).trans rfl, (blk_cell BK256.out 2).trans rfl, ((HB.out.cell (World.block_lt_of_cell? w _ hw259_0)).trans hw259_0), ((HB.out.cell (World.block_lt_of_cell? w _ hw259_1)).trans hw259_1), ((HB.out.cell (World.block_lt_of_cell? w _ hw259_2)).trans hw259_2)⟩ (fun hHeld => ?_); refine with_tabW spec_l08Side.tab5 spec_l08Side.bits5 (fun HT_ HW_ => ?_)
      generalize wr.drew = w16 at HO_259000 BK256 BK257 BK258 HB hx259_0 hx259_1 hx259_2 hHeld ⊢
      refine p1_ (i := 0) (N := some 17) #[true, false, false, false, false, false, false, false, false, false, false] (any_of HT_.out (by kernel_rfl)) ?_
      refine p1_ (i := 2) (N := some 19) #[true, false, true, false, false, false, false, false, false, false, false] (any_of HT_.out (by kernel_rfl)) ?_
      refine p1_ (i := 4) (N := some 21) #[true, false, true, false, true, false, false, false, false, false, false] (any_of HT_.out (by kernel_rfl)) ?_
      refine take_ (i := 1) (N := some 18) (v := ?_) (a' := ?_) #[true, true, true, false, true, false, false, false, false, false, false] rfl rfl (take_ofW HT_.out HW_.out (by kernel_rfl)) (fun _ _ _ h => h) (Or.inl ⟨by rfl, ?_⟩) hHeld ?_ ?_; rotate_left; (rintro w' ⟨s0, s1, s2, s3, s4, s5, s6, s7, s8⟩; go_simp; with_reducible rfl); rotate_left; (simp only [Act.put, List.setIfInBounds_toArray, List.set_cons_zero, List.set_cons_succ, i64_w, i32_w]; rfl)
      refine take_ (i := 3) (N := some 20) (v := ?_) (a' := ?_) #[true, true, true, true, true, false, false, false, false, false, false] rfl rfl (take_ofW HT_.out HW_.out (by kernel_rfl)) (fun _ _ _ h => h) (Or.inl ⟨by rfl, ?_⟩) hHeld ?_ ?_; rotate_left; (rintro w' ⟨s0, s1, s2, s3, s4, s5, s6, s7, s8⟩; go_simp; with_reducible rfl); rotate_left; (simp only [Act.put, List.setIfInBounds_toArray, List.set_cons_zero, List.set_cons_succ, i64_w, i32_w]; rfl)
      refine p1_ (i := 5) (N := some 22) #[true, true, true, true, true, true, false, false, false, false, false] (any_of HT_.out (by kernel_rfl)) ?_
      refine take_ (i := 6) (N := some 23) (v := ?_) (a' := ?_) #[true, true, true, true, true, true, true, false, false, false, false] rfl rfl (take_ofW HT_.out HW_.out (by kernel_rfl)) (fun _ _ _ h => h) (Or.inl ⟨by rfl, ?_⟩) hHeld ?_ ?_; rotate_left; (rintro w' ⟨s0, s1, s2, s3, s4, s5, s6, s7, s8⟩; go_simp; with_reducible rfl); rotate_left; (simp only [Act.put, List.setIfInBounds_toArray, List.set_cons_zero, List.set_cons_succ, i64_w, i32_w]; rfl)
      refine one_ (i := 7) (N := some 24) #[true, true, true, true, true, true, true, true, false, false, false] rfl rfl (one_of HT_.out (by kernel_rfl)) (by decide) (fun K hK => ?_)
      refine value_ (w1 := ?_) (v := ?_) (by rfl) rfl ?_ ?_
      rotate_left 2
      ·go_simp
       constructor
       ·rfl
       ·rfl
      refine hK.out _ _ ⟨(blk_cell (blk_alloc BK258.out _) 0).trans rfl, (blk_cell (blk_alloc BK258.out _) 1).trans rfl, (blk_cell (blk_alloc BK258.out _) 2).trans rfl, (blk_cell (blk_alloc BK256.out _) 0).trans rfl, (blk_cell (blk_alloc BK256.out _) 1).trans rfl, (blk_cell (blk_alloc BK256.out _) 2).trans rfl, (World.cell?_alloc_lt _ _ _ (World.block_lt_of_cell? _ _ (((HB.out.cell (World.block_lt_of_cell? w _ hw259_0)).trans hw259_0)))).trans (((HB.out.cell (World.block_lt_of_cell? w _ hw259_0)).trans hw259_0)), (World.cell?_alloc_lt _ _ _ (World.block_lt_of_cell? _ _ (((HB.out.cell (World.block_lt_of_cell? w _ hw259_1)).trans hw259_1)))).trans (((HB.out.cell (World.block_lt_of_cell? w _ hw259_1)).trans hw259_1)), (World.cell?_alloc_lt _ _ _ (World.block_lt_of_cell? _ _ (((HB.out.cell (World.block_lt_of_cell? w _ hw259_2)).trans hw259_2)))).trans (((HB.out.cell (World.block_lt_of_cell? w _ hw259_2)).trans hw259_2))⟩ (fun hHeld => ?_)
      clear hK K
      refine norm_ (a' := ?_) ?_ ?_
      rotate_left
      ·show Act.put _ (some 24) _ = _
       simp only [Act.put, List.setIfInBounds_toArray, List.set_cons_zero, List.set_cons_succ, i64_w, i32_w]
       rfl
      refine one_ (i := 8) (N := some 25) #[true, true, true, true, true, true, true, true, true, false, false] rfl rfl (one_of HT_.out (by kernel_rfl)) (by decide) (fun K hK => ?_)
      refine Kd.R_append_step k71 (w0 := w) w.heap.size (by rfl) (.tmp 18) (.tmp 24) 27 71 (.agg #[(.int .i64 0), (.int .i64 0), (.int .i64 0)]) 24 rfl Try.underlying27 info71 rfl (by decide) (by omega) u259000 x259000_1 (⟨(rd_T71 l0_0 x4_1).f0, (rd_T71 l0_0 x4_1).f1, (rd_T71 l0_0 x4_1).f2⟩ : S71) [.int .i64 ((rd_T71 l0_0 x4_1).f0), .int .i64 ((rd_T71 l0_0 x4_1).f1), .int .i64 ((rd_T71 l0_0 x4_1).f2)] (fun _ => True) (fun _ => False) rfl rfl ?aP (fun _ hk => hk.elim) ?aF ?aO ?aB ?aS ?aL ?_
      (case aP => exact k71_mkM _ _ _ (⟨(rd_T71 l0_0 x4_1).f0, (rd_T71 l0_0 x4_1).f1, (rd_T71 l0_0 x4_1).f2⟩ : S71))
      (case aB => exact hb_)
      (case aF => exact (fun _ _ => trivial))
      (case aO => exact (ro_ HO_259000))
      (case aS => exact (below_size hb_))
      (case aL => have := LMc12.out; omega)
      intro v261 w17 ho hb hg hat
      rw [← Ny260.out] at ho
      replace BK256 := ak_ (blk_grown (bk_ BK256) hg (Kd.R_ne HO_259000.out BK256.out (by decide)))
      replace BK257 := ak_ (blk_grown (bk_ BK257) hg (Kd.R_ne HO_259000.out BK257.out (by decide)))
      replace BK258 := ak_ (blk_grown (bk_ BK258) hg (Kd.R_ne HO_259000.out BK258.out (by decide)))
      replace HB := ak_ hb
      have HO262 := ak_ ho
      clear HO_259000
      clear ho hb hg hat
      obtain ⟨Ao18, co18, eo18⟩ := Kd.R_slice HO262.out
      (first | subst eo18 | (injection eo18 with f1_ f2_ f3_; have f4_ := f1_.symm; have f5_ := f3_.symm; clear f1_ f2_ f3_; subst f4_; subst f5_))
      refine hK.out _ _ ⟨(blk_cell BK258.out 0).trans rfl, (blk_cell BK258.out 1).trans rfl, (blk_cell BK258.out 2).trans rfl, (blk_cell BK256.out 0).trans rfl, (blk_cell BK256.out 1).trans rfl, (blk_cell BK256.out 2).trans rfl, ((HB.out.cell (World.block_lt_of_cell? w _ hw259_0)).trans hw259_0), ((HB.out.cell (World.block_lt_of_cell? w _ hw259_1)).trans hw259_1), ((HB.out.cell (World.block_lt_of_cell? w _ hw259_2)).trans hw259_2)⟩ (fun hHeld => ?_)
      clear hK K
      refine norm_ (a' := ?_) ?_ ?_
      rotate_left
      ·show Act.put _ (some 25) _ = _
       simp only [Act.put, List.setIfInBounds_toArray, List.set_cons_zero, List.set_cons_succ, i64_w, i32_w]
       rfl
      refine p1_ (i := 9) (N := some 26) #[true, true, true, true, true, true, true, true, true, true, false] (any_of HT_.out (by kernel_rfl)) ?_
      refine last_ (i := 10) (N := none) #[true, true, true, true, true, true, true, true, true, true, true] rfl rfl (one_of HT_.out (by kernel_rfl)) (by decide) (fun K hK => ?_)
      have hs19 : w17.cell? ⟨gb258, 0, none⟩ = some (u259000) := (blk_cell BK258.out 0).trans rfl
      have hfs19 := blk_frozen BK258.out 0
      have hns19_0 := NB256_258.out
      have hns19_1 := NB257_258.out
      have hms19_0 := NB258_256.out
      have hms19_1 := NB258_257.out
      refine skip_ (w1 := ?_) (by rfl) rfl ?_ ?_
      rotate_left
      ·go_simp
       rfl
      refine hK.out _ _ ?_
      clear hK K
      refine done_ (done_of HT_.out (by kernel_rfl)) ?_
      try go_wp2
      go_roundg k1
      case measure => have := HK1.out; omega
      case rel => exact ⟨(wrap64 (x4_1 + 1)), (y260), (.slice Ao18 y260.length co18), (by first | rfl | (simp; done) | (simp [*]; done)), H', ⟨by have := HK1.out; omega⟩, ⟨by (with_reducible repeat (first | apply Kd.R_alloc | apply Kd.R_drewN | apply Kd.R_drew)); exact Kd.R_mono (Kd.R_far (p := ⟨gb258, 0, none⟩) (Kd.R_types HO262.out BK258.out (by decide)) (fun _ hk => hk.2) (.slice Ao18 y260.length co18)) (fun _ hk => trivial)⟩, ⟨bq_ BK256⟩, ⟨bq_ BK257⟩, ⟨bq_ BK258⟩, ⟨hb_⟩⟩
     ·rw [if_neg c12] at H
      exact absurd H (by simp)
    ·rw [if_neg c11] at H
     exact absurd H (by simp)
   ·rw [if_neg c10] at H
    have c10b0 : decide (x4_1 < (l0_0.length : Int)) = false := decide_eq_false c10
    clear c10
    simp only [Option.some.injEq, Prod.mk.injEq] at H
    obtain ⟨rfl, rfl, rfl⟩ := H
    have hnb20 := NB256_257.out
    have hnc20 := NB257_256.out
    have hnb21 := NB256_258.out
    have hnc21 := NB258_256.out
    obtain ⟨hcz22_0, hcz22_1, hcz22_2, hfz22_0, hfz22_1, hfz22_2⟩ := bc3_ BK256.out
    have hnb23 := NB258_257.out
    have hnc23 := NB257_258.out
    obtain ⟨hcz24_0, hcz24_1, hcz24_2, hfz24_0, hfz24_1, hfz24_2⟩ := bc3_ BK258.out
    obtain ⟨Ao25, co25, eo25⟩ := Kd.R_slice HO_259000.out
    subst eo25
    obtain ⟨hcz26_0, hcz26_1, hcz26_2, hfz26_0, hfz26_1, hfz26_2⟩ := bc3_ BK257.out
    go_wp2
    refine bodyPost_ret (results_cell_row rfl _ _ gb257 29 #[.slice Ao25 x259000_1.length co25, .int .i64 a0_1, .int .i64 a0_2] (0, 0) _ rfl (bq_ BK257) Try.underlying29 rfl (by kernel_rfl)) rfl ?_
    exact ⟨_, ew_, by (with_reducible repeat (first | apply Kd.R_alloc | apply Kd.R_drewN | apply Kd.R_drew)); exact Kd.R_mono (rcR_ (Kd.R_types HO_259000.out BK257.out (by decide))) (fun _ hk => trivial), hb_⟩

end Go.Proofs.Ytblfoelddakelaa.H
