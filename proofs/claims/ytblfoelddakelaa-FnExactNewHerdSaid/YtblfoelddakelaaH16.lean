-- PRINTED by print.py (a twelfth state) out of the translation. Not trusted: Lean checks it.
import Derived.Test.YtblfoelddakelaaH0
namespace Go.Proofs.Ytblfoelddakelaa.H
open Go.RowKit Go.Proofs.YtblfoelddakelaaW.PrintWords Go.Proofs.YtblfoelddakelaaW.PrintLast Go.Proofs.YtblfoelddakelaaW.PrintMore
attribute [local go_sem] max2_int min2_int max_two min_two max_three min_three max_four min_four   -- for this text's walks alone
set_option linter.unusedVariables false
set_option linter.unusedSimpArgs false

/-! ### laws_toPolicy: function 95 -/
def laws_toPolicy.f (a0_0 : Int) (a0_1 : Int) (a0_2 : Int) : Option (Int × Int × Int) := some (a0_0, a0_1, a0_2)
set_option maxHeartbeats 8000000 in
set_option maxRecDepth 100000 in
theorem laws_toPolicy.calls (a0_0 : Int) (a0_1 : Int) (a0_2 : Int) (r1 : Int) (r2 : Int) (r3 : Int) (w : World) (h : laws_toPolicy.f a0_0 a0_1 a0_2 = some (r1, r2, r3)) :
  Calls Try.prog 95 #[.agg #[.int .i64 a0_0, .int .i64 a0_1, .int .i64 a0_2]] w fun e w' => e = .returned (.agg #[.int .i64 r1, .int .i64 r2, .int .i64 r3]) ∧ Below w.heap.size w w' := by
 have hu132 := Try.underlying132
 have hu71 := Try.underlying71
 have HB := ak_ (Below.refl w.heap.size w)
 have H : (some (a0_0, a0_1, a0_2)) = some (r1, r2, r3) := h
 clear h
 simp only [Option.some.injEq, Prod.mk.injEq] at H
 obtain ⟨rfl, rfl, rfl⟩ := H
 go_enter Try.func95, Try.ntmps95
 go_wp2_with (first | ((with_reducible refine gate_dst (N := 1) rfl ?_); refine be_ (N := 1) (cs := #[.int .i64 a0_0, .int .i64 a0_1, .int .i64 a0_2]) (t := 132) ?_; intro gb174 hg w2 hbox hb; have BK174 := ak_ hbox; have GW174 := ak_ ((gs_ hg : w.heap.size ≤ gb174)); have GE174 := ak_ ((gs_ hg : w.heap.size ≤ gb174)); replace HB := ak_ (below_step hb_ hb); clear hb hbox hg) | ((with_reducible refine gate_dst (N := 2) rfl ?_); refine be_ (N := 2) (cs := #[.int .i64 0, .int .i64 0, .int .i64 0]) (t := 71) ?_; intro gb175 hg w3 hbox hb; have BK175 := ak_ hbox; have GW175 := ak_ ((gs_ hg : w.heap.size ≤ gb175)); have GE175 := ak_ ((gs_ hg : w.heap.size ≤ gb175)); replace HB := ak_ (below_step hb_ hb); have NB174_175 := ak_ (nl_ hg (bk_ BK174)); have NB175_174 := ak_ (ng_ hg (bk_ BK174)); replace BK174 := ak_ (blk_below (bk_ BK174) hb); clear hb hbox hg) | ((with_reducible refine gate_dst (N := 3) rfl ?_); refine be_ (N := 3) (cs := #[.int .i64 0, .int .i64 0, .int .i64 0]) (t := 71) ?_; intro gb176 hg w4 hbox hb; have BK176 := ak_ hbox; have GW176 := ak_ ((gs_ hg : w.heap.size ≤ gb176)); have GE176 := ak_ ((gs_ hg : w.heap.size ≤ gb176)); replace HB := ak_ (below_step hb_ hb); have NB174_176 := ak_ (nl_ hg (bk_ BK174)); have NB176_174 := ak_ (ng_ hg (bk_ BK174)); replace BK174 := ak_ (blk_below (bk_ BK174) hb); have NB175_176 := ak_ (nl_ hg (bk_ BK175)); have NB176_175 := ak_ (ng_ hg (bk_ BK175)); replace BK175 := ak_ (blk_below (bk_ BK175) hb); clear hb hbox hg; have hnb5 := NB174_175.out; have hnc5 := NB175_174.out; have hnb6 := NB174_176.out; have hnc6 := NB176_174.out; obtain ⟨hcz7_0, hcz7_1, hcz7_2, hfz7_0, hfz7_1, hfz7_2⟩ := bc3_ BK174.out; have hnb8 := NB176_175.out; have hnc8 := NB175_176.out; obtain ⟨hcz9_0, hcz9_1, hcz9_2, hfz9_0, hfz9_1, hfz9_2⟩ := bc3_ BK176.out; obtain ⟨hcz10_0, hcz10_1, hcz10_2, hfz10_0, hfz10_1, hfz10_2⟩ := bc3_ BK175.out))
 refine bodyPost_ret (results_cell_row rfl _ _ gb175 71 #[.int .i64 a0_0, .int .i64 a0_1, .int .i64 a0_2] (0, 0) _ rfl (bq_ BK175) Try.underlying71 rfl (by kernel_rfl)) rfl ?_
 exact ⟨ew_, hb_⟩

end Go.Proofs.Ytblfoelddakelaa.H
