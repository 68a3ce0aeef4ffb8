-- PRINTED by print.py (a twelfth state) out of the translation. Not trusted: Lean checks it.
import Derived.Test.YtblfoelddakelaaDoorP0
import Derived.Test.YtblfoelddakelaaDoorP3
import Derived.Test.YtblfoelddakelaaDoorP8
import Derived.Test.YtblfoelddakelaaDoorP13
import Derived.Test.YtblfoelddakelaaDoorP14
import Derived.Test.YtblfoelddakelaaDoorP15
namespace Go.Proofs.YtblfoelddakelaaDoor.P
open Go.RowKit Go.Proofs.YtblfoelddakelaaDoorW.PrintWords Go.Proofs.YtblfoelddakelaaDoorW.PrintLast Go.Proofs.YtblfoelddakelaaDoorW.PrintMore
attribute [local go_sem] max2_int min2_int max_two min_two max_three min_three max_four min_four   -- for this text's walks alone
set_option linter.unusedVariables false
set_option linter.unusedSimpArgs false

/-! ### laws_FnExactParseSide: function 6 -/
mutual
def laws_FnExactParseSide.j0 : Nat → ByteArray → Bool → Bool → List (S67) → Int → Int → List (S67) → Int → Int → Option (Bool)
  | 0, _, _, _, _, _, _, _, _, _ => none
  | k + 1, x0, x4, x32, x244000, x244001, x244002, x251000, x251001, x251002 => if x32 = true then (some false) else ((laws_markSide.f k x251000 x251001 x251002 1).bind fun bt252 => ((laws_heldSide.f k bt252.2 x251001 x251002 1).bind fun t254 => (if t254 < 0 then (some false) else (if t254 = bt252.1 then ((impl_ParseSide.f k x0).bind fun bt255 => ((laws_eqSide.f k bt255.1 bt255.2.1 bt255.2.2.1 x244000 x244001 x244002).bind fun t262 => (if t262 = true then (laws_FnExactParseSide.j1 k bt252.1 (bt255.2.2.2 != x4) bt252.2 x251001 x251002) else (laws_FnExactParseSide.j1 k bt252.1 true bt252.2 x251001 x251002)))) else (some false)))))
def laws_FnExactParseSide.j1 : Nat → Int → Bool → List (S67) → Int → Int → Option (Bool)
  | 0, _, _, _, _, _ => none
  | k + 1, x7, x57, x251000, x251001, x251002 => if x57 = true then (some false) else ((laws_heldSide.f k x251000 x251001 x251002 1).bind fun t263 => (if t263 < 0 then (some false) else (if t263 = x7 then (some true) else (some false))))
end
def laws_FnExactParseSide.f (k : Nat) (a0 : ByteArray) : Option (Bool) := if (a0.size : Int) > 1048576 then (some true) else ((spec_ParseSide.f k a0).bind fun bt237 => ((impl_ParseSide.f k a0).bind fun bt244 => ((laws_eqSide.f k bt244.1 bt244.2.1 bt244.2.2.1 bt237.1 bt237.2.1 bt237.2.2.1).bind fun t251 => (if t251 = true then (laws_FnExactParseSide.j0 k a0 bt237.2.2.2 (bt244.2.2.2 != bt237.2.2.2) bt237.1 bt237.2.1 bt237.2.2.1 bt244.1 bt244.2.1 bt244.2.2.1) else (laws_FnExactParseSide.j0 k a0 bt237.2.2.2 true bt237.1 bt237.2.1 bt237.2.2.1 bt244.1 bt244.2.1 bt244.2.2.1)))))
theorem laws_FnExactParseSide.mono_l : ∀ k, (∀ y0 y1 y2 y3 y4 y5 y6 y7 y8, LeO (laws_FnExactParseSide.j0 k y0 y1 y2 y3 y4 y5 y6 y7 y8) (laws_FnExactParseSide.j0 (k + 1) y0 y1 y2 y3 y4 y5 y6 y7 y8)) ∧ (∀ y0 y1 y2 y3 y4, LeO (laws_FnExactParseSide.j1 k y0 y1 y2 y3 y4) (laws_FnExactParseSide.j1 (k + 1) y0 y1 y2 y3 y4))
  | 0 => ⟨fun _ _ _ _ _ _ _ _ _ r h => by simp [laws_FnExactParseSide.j0] at h, fun _ _ _ _ _ r h => by simp [laws_FnExactParseSide.j1] at h⟩
  | k + 1 => by
    obtain ⟨ih0, ih1⟩ := laws_FnExactParseSide.mono_l k
    refine ⟨?_, ?_⟩
    · intro y0 y1 y2 y3 y4 y5 y6 y7 y8
      unfold laws_FnExactParseSide.j0
      repeat' with_reducible first | exact ih0 _ _ _ _ _ _ _ _ _ | exact ih1 _ _ _ _ _ | exact impl_ParseSide.mono _ _ | exact laws_eqSide.mono _ _ _ _ _ _ _ | exact laws_heldSide.mono _ _ _ _ _ | exact laws_markSide.mono _ _ _ _ _ | exact spec_ParseSide.mono _ _ | exact LeO.refl _ | exact LeO.none _ | refine LeO.ite ?_ ?_ | refine LeO.bind ?_ (fun _ => ?_)
    · intro y0 y1 y2 y3 y4
      unfold laws_FnExactParseSide.j1
      repeat' with_reducible first | exact ih0 _ _ _ _ _ _ _ _ _ | exact ih1 _ _ _ _ _ | exact impl_ParseSide.mono _ _ | exact laws_eqSide.mono _ _ _ _ _ _ _ | exact laws_heldSide.mono _ _ _ _ _ | exact laws_markSide.mono _ _ _ _ _ | exact spec_ParseSide.mono _ _ | exact LeO.refl _ | exact LeO.none _ | refine LeO.ite ?_ ?_ | refine LeO.bind ?_ (fun _ => ?_)
theorem laws_FnExactParseSide.mono : ∀ a0 k, LeO (laws_FnExactParseSide.f k a0) (laws_FnExactParseSide.f (k + 1) a0) := by
  intro a0 k
  obtain ⟨ih0, ih1⟩ := laws_FnExactParseSide.mono_l k
  unfold laws_FnExactParseSide.f
  repeat' with_reducible first | exact ih0 _ _ _ _ _ _ _ _ _ | exact ih1 _ _ _ _ _ | exact impl_ParseSide.mono _ _ | exact laws_eqSide.mono _ _ _ _ _ _ _ | exact laws_heldSide.mono _ _ _ _ _ | exact laws_markSide.mono _ _ _ _ _ | exact spec_ParseSide.mono _ _ | exact LeO.refl _ | exact LeO.none _ | refine LeO.ite ?_ ?_ | refine LeO.bind ?_ (fun _ => ?_)
set_option maxHeartbeats 8000000 in
set_option maxRecDepth 100000 in
theorem laws_FnExactParseSide.calls (k : Nat) (a0 : ByteArray) (r : Bool) (hrT : Aside0 (r = true)) (w : World) (hL : Lay w) (h : laws_FnExactParseSide.f k a0 = some r) :
  Calls Tryd.prog 6 #[.string a0] w fun e w' => e = .returned (.bool r) ∧ Below w.heap.size w w' := by
 have HLAY := Aside0.mk hL
 clear hL
 have hu35 := Tryd.underlying35
 have HB := Aside0.mk (Below.refl w.heap.size w)
 have H : (if (a0.size : Int) > 1048576 then (some true) else ((spec_ParseSide.f k a0).bind fun bt237 => ((impl_ParseSide.f k a0).bind fun bt244 => ((laws_eqSide.f k bt244.1 bt244.2.1 bt244.2.2.1 bt237.1 bt237.2.1 bt237.2.2.1).bind fun t251 => (if t251 = true then (laws_FnExactParseSide.j0 k a0 bt237.2.2.2 (bt244.2.2.2 != bt237.2.2.2) bt237.1 bt237.2.1 bt237.2.2.1 bt244.1 bt244.2.1 bt244.2.2.1) else (laws_FnExactParseSide.j0 k a0 bt237.2.2.2 true bt237.1 bt237.2.1 bt237.2.2.1 bt244.1 bt244.2.1 bt244.2.2.1)))))) = some r := h
 clear h
 by_cases c2 : (a0.size : Int) > 1048576
 ·rw [if_pos c2] at H
  have c2b0 : decide (1048576 < (a0.size : Int)) = true := decide_eq_true c2
  have c2b1 : decide (1048576 < a0.size) = true := decide_eq_true (by omega)
  clear c2
  obtain rfl := Option.some.inj H
  go_enter Tryd.func6, Tryd.ntmps6
  go_wp2
  go_ret
  exact ⟨ew_, hb_⟩
 ·rw [if_neg c2] at H
  have c2b0 : decide (1048576 < (a0.size : Int)) = false := decide_eq_false c2
  have c2b1 : decide (1048576 < a0.size) = false := decide_eq_false (by omega)
  clear c2
  replace H := Option.bind_eq_some_iff.mp H
  obtain ⟨⟨t237, t240, t241, t242⟩, A30, H⟩ := H
  replace H : ((impl_ParseSide.f k a0).bind fun bt244 => ((laws_eqSide.f k bt244.1 bt244.2.1 bt244.2.2.1 t237 t240 t241).bind fun t251 => (if t251 = true then (laws_FnExactParseSide.j0 k a0 t242 (bt244.2.2.2 != t242) t237 t240 t241 bt244.1 bt244.2.1 bt244.2.2.1) else (laws_FnExactParseSide.j0 k a0 t242 true t237 t240 t241 bt244.1 bt244.2.1 bt244.2.2.1)))) = some r := H
  have A3 := Aside0.mk A30
  clear A30
  replace H := Option.bind_eq_some_iff.mp H
  obtain ⟨⟨t244, t247, t248, t249⟩, A40, H⟩ := H
  replace H : ((laws_eqSide.f k t244 t247 t248 t237 t240 t241).bind fun t251 => (if t251 = true then (laws_FnExactParseSide.j0 k a0 t242 (t249 != t242) t237 t240 t241 t244 t247 t248) else (laws_FnExactParseSide.j0 k a0 t242 true t237 t240 t241 t244 t247 t248))) = some r := H
  have A4 := Aside0.mk A40
  clear A40
  have HC5 := Aside0.mk H
  clear H
  go_enter Tryd.func6, Tryd.ntmps6
  go_upto_region 5 with (first | ((with_reducible refine gate_callee (f := 20) rfl ?_); refine goesL_ (some 16) rfl rfl Tryd.func20 (by kernel_rfl) rfl #[.string a0] rfl (ma1_ rfl) ?_; (with_reducible refine (spec_ParseSide.calls k a0 t237 t240 t241 t242 _ A3.out).mono ?_); rintro e w6 ⟨v238, rfl, ho0, hb⟩; refine ⟨_, rfl, ?_⟩; have HO239 := ak_ (Kd.R_lower ho0 (below_size hb_)); replace HB := ak_ (below_step hb_ hb); (try clear hb); (try clear hk); (try clear ho0)) | ((with_reducible refine gate_dst (N := 3) rfl ?_); refine be_ (N := 3) (cs := #[.slice none 0 0, .int .i64 0, .int .i64 0]) (t := 35) ?_; intro gb243 hg w7 hbox hb; replace HO239 := ak_ (Kd.R_below (by (with_reducible repeat (first | apply Kd.R_alloc | apply Kd.R_drewN | apply Kd.R_drew)); exact HO239.out) hb); have BK243 := ak_ hbox; have GW243 := ak_ ((gs_ hg : w.heap.size ≤ gb243)); have GE243 := ak_ ((gs_ hg : w.heap.size ≤ gb243)); replace HB := ak_ (below_step hb_ hb); clear hb hbox hg; obtain ⟨Ao8, co8, eo8⟩ := Kd.R_slice HO239.out; subst eo8; obtain ⟨hcz9_0, hcz9_1, hcz9_2, hfz9_0, hfz9_1, hfz9_2⟩ := bc3_ BK243.out) | ((with_reducible refine gate_callee (f := 21) rfl ?_); refine goesL_ (some 21) rfl rfl Tryd.func21 (by kernel_rfl) rfl #[.string a0] rfl (ma1_ rfl) ?_; (with_reducible refine (impl_ParseSide.calls k a0 t244 t247 t248 t249 _ ?sideL A4.out).mono ?_); (case sideL => refine lay_at HLAY.out ?_; repeat (first | (with_reducible first | exact HB.out | apply below_alloc | apply pw_below_drewN | apply below_drew1 | refine below_set ?_ GE243.out) | exact HB.out)); rintro e w10 ⟨v245, rfl, ho0, hb⟩; refine ⟨_, rfl, ?_⟩; have HO246 := ak_ (Kd.R_lower (Kd.R_new' ho0 (Kd.R_lt (by (with_reducible repeat (first | apply Kd.R_alloc | apply Kd.R_drewN | apply Kd.R_drew)); exact (Kd.R_mono (Kd.R_far (p := ⟨gb243, 2, none⟩) (Kd.R_far (p := ⟨gb243, 1, none⟩) (Kd.R_far (p := ⟨gb243, 0, none⟩) (Kd.R_types HO239.out BK243.out (by decide)) (fun _ hk => hk.2) (.slice Ao8 t237.length co8)) (fun _ hk => hk.2) (.int .i64 t240)) (fun _ hk => hk.2) (.int .i64 t241)) (fun _ h_ => h_.1))))) (below_size hb_)); replace HO239 := ak_ (Kd.R_elder' (by (with_reducible repeat (first | apply Kd.R_alloc | apply Kd.R_drewN | apply Kd.R_drew)); exact (Kd.R_mono (Kd.R_far (p := ⟨gb243, 2, none⟩) (Kd.R_far (p := ⟨gb243, 1, none⟩) (Kd.R_far (p := ⟨gb243, 0, none⟩) (Kd.R_types HO239.out BK243.out (by decide)) (fun _ hk => hk.2) (.slice Ao8 t237.length co8)) (fun _ hk => hk.2) (.int .i64 t240)) (fun _ hk => hk.2) (.int .i64 t241)) (fun _ h_ => h_.1))) (Kd.R_base ho0) hb); replace BK243 := ak_ (blk_below (g := gb243) (o := .cells #[.slice Ao8 t237.length co8, .int .i64 t240, .int .i64 t241] 35 (0, 0)) (by (with_reducible repeat (first | refine blk_drewN ?_ _ | refine blk_drew ?_ | refine blk_alloc ?_ _)); refine blk_put (cs := #[.slice Ao8 t237.length co8, .int .i64 t240, .int .i64 0]) ?_ 2 _ rfl; (with_reducible repeat (first | refine blk_drewN ?_ _ | refine blk_drew ?_ | refine blk_alloc ?_ _)); refine blk_put (cs := #[.slice Ao8 t237.length co8, .int .i64 0, .int .i64 0]) ?_ 1 _ rfl; (with_reducible repeat (first | refine blk_drewN ?_ _ | refine blk_drew ?_ | refine blk_alloc ?_ _)); refine blk_put (cs := #[.slice none 0 0, .int .i64 0, .int .i64 0]) ?_ 0 _ rfl; (with_reducible repeat (first | refine blk_drewN ?_ _ | refine blk_drew ?_ | refine blk_alloc ?_ _)); exact BK243.out) hb); replace HB := ak_ (below_step hb_ hb); (try clear hb); (try clear hk); (try clear ho0)) | ((with_reducible refine gate_dst (N := 5) rfl ?_); refine be_ (N := 5) (cs := #[.slice none 0 0, .int .i64 0, .int .i64 0]) (t := 35) ?_; intro gb250 hg w11 hbox hb; replace HO239 := ak_ (Kd.R_below (by (with_reducible repeat (first | apply Kd.R_alloc | apply Kd.R_drewN | apply Kd.R_drew)); exact HO239.out) hb); replace HO246 := ak_ (Kd.R_below (by (with_reducible repeat (first | apply Kd.R_alloc | apply Kd.R_drewN | apply Kd.R_drew)); exact HO246.out) hb); have BK250 := ak_ hbox; have GW250 := ak_ ((gs_ hg : w.heap.size ≤ gb250)); have GE250 := ak_ ((gs_ hg : w.heap.size ≤ gb250)); replace HB := ak_ (below_step hb_ hb); have NB243_250 := ak_ (nl_ hg (bk_ BK243)); have NB250_243 := ak_ (ng_ hg (bk_ BK243)); replace BK243 := ak_ (blk_below (bk_ BK243) hb); clear hb hbox hg; obtain ⟨Ao12, co12, eo12⟩ := Kd.R_slice HO246.out; subst eo12; have hnb13 := NB250_243.out; have hnc13 := NB243_250.out; obtain ⟨hcz14_0, hcz14_1, hcz14_2, hfz14_0, hfz14_1, hfz14_2⟩ := bc3_ BK250.out))
  (try simp only [Act.put, List.setIfInBounds_toArray, List.set_cons_zero, List.set_cons_succ])
  go_cut [32] (fun v32 wc => ∃ (kq : Nat) (x32_4 : Bool), v32 = .bool x32_4 ∧ Aside0 (laws_FnExactParseSide.j0 kq a0 t242 x32_4 t237 t240 t241 t244 t247 t248 = some r) ∧ Aside0 (kq ≤ k) ∧ Aside0 (Kd.R k67 67 wc w.heap.size (fun k_ => some k_ ≠ ((.slice Ao12 t244.length co12) : Value).ownBlock) (.slice Ao8 t237.length co8) t237) ∧ Aside0 (Kd.R k67 67 wc w.heap.size (fun k_ => some k_ ≠ ((.slice Ao8 t237.length co8) : Value).ownBlock) (.slice Ao12 t244.length co12) t244) ∧ Aside0 (wc.heap[gb243]? = some (.cells #[(.slice Ao8 t237.length co8), .int .i64 t240, .int .i64 t241] 35 (0, 0))) ∧ Aside0 (wc.heap[gb250]? = some (.cells #[(.slice Ao12 t244.length co12), .int .i64 t247, .int .i64 t248] 35 (0, 0))) ∧ Aside0 (Below w.heap.size w wc))
  case first =>
   have H := HC5.out
   clear HC5
   replace H := Option.bind_eq_some_iff.mp H
   obtain ⟨t251, A150, H⟩ := H
   replace H : (if t251 = true then (laws_FnExactParseSide.j0 k a0 t242 (t249 != t242) t237 t240 t241 t244 t247 t248) else (laws_FnExactParseSide.j0 k a0 t242 true t237 t240 t241 t244 t247 t248)) = some r := H
   have A15 := Aside0.mk A150
   clear A150
   by_cases c16 : t251 = true
   ·subst c16
    rw [if_pos rfl] at H
    have H' := Aside0.mk H
    clear H
    have hnb17 := NB250_243.out
    have hnc17 := NB243_250.out
    obtain ⟨hcz18_0, hcz18_1, hcz18_2, hfz18_0, hfz18_1, hfz18_2⟩ := bc3_ BK250.out
    obtain ⟨hcz19_0, hcz19_1, hcz19_2, hfz19_0, hfz19_1, hfz19_2⟩ := bc3_ BK243.out
    go_wp2_with (first | ((with_reducible refine gate_callee (f := 14) rfl ?_); refine goesL_ (some 26) rfl rfl Tryd.func14 (by kernel_rfl) rfl #[.agg #[.slice Ao12 t244.length co12, .int .i64 t247, .int .i64 t248], .agg #[.slice Ao8 t237.length co8, .int .i64 t240, .int .i64 t241]] rfl (ma2_ rfl rfl) ?_; (with_reducible refine (laws_eqSide.calls k _ _ t244 t247 t248 _ _ t237 t240 t241 true _ ?side1 ?side2 ?side3 ?side4 A15.out).mono ?_); (case side1 => refine (Kd.R_reads' (e := 67) (base := w.heap.size) (ok := fun k_ => (True ∧ some k_ ≠ (.slice Ao8 t237.length co8 : Value).ownBlock)) (n := t244.length) (c := co12) ?_).2.2; exact (by (with_reducible repeat (first | apply Kd.R_alloc | apply Kd.R_drewN | apply Kd.R_drew)); exact (Kd.R_mono (Kd.R_far (p := ⟨gb250, 2, none⟩) (Kd.R_far (p := ⟨gb250, 1, none⟩) (Kd.R_far (p := ⟨gb250, 0, none⟩) (Kd.R_types HO246.out BK250.out (by decide)) (fun _ hk => hk.2) (.slice Ao12 t244.length co12)) (fun _ hk => hk.2) (.int .i64 t247)) (fun _ hk => hk.2) (.int .i64 t248)) (fun _ h_ => h_.1)))); (case side2 => exact (Kd.R_reads' HO246.out).2.1); (case side3 => refine (Kd.R_reads' (e := 67) (base := w.heap.size) (ok := fun k_ => (True ∧ some k_ ≠ (.slice Ao12 t244.length co12 : Value).ownBlock)) (n := t237.length) (c := co8) ?_).2.2; exact (by (with_reducible repeat (first | apply Kd.R_alloc | apply Kd.R_drewN | apply Kd.R_drew)); exact (Kd.R_mono (Kd.R_far (p := ⟨gb250, 2, none⟩) (Kd.R_far (p := ⟨gb250, 1, none⟩) (Kd.R_far (p := ⟨gb250, 0, none⟩) (Kd.R_types HO239.out BK250.out (by decide)) (fun _ hk => hk.2) (.slice Ao12 t244.length co12)) (fun _ hk => hk.2) (.int .i64 t247)) (fun _ hk => hk.2) (.int .i64 t248)) (fun _ h_ => h_.1)))); (case side4 => exact (Kd.R_reads' HO239.out).2.1); rintro e w20 ⟨rfl, hb⟩; refine ⟨_, rfl, ?_⟩; replace HO239 := ak_ (Kd.R_below (by (with_reducible repeat (first | apply Kd.R_alloc | apply Kd.R_drewN | apply Kd.R_drew)); exact (Kd.R_mono (Kd.R_far (p := ⟨gb250, 2, none⟩) (Kd.R_far (p := ⟨gb250, 1, none⟩) (Kd.R_far (p := ⟨gb250, 0, none⟩) (Kd.R_types HO239.out BK250.out (by decide)) (fun _ hk => hk.2) (.slice Ao12 t244.length co12)) (fun _ hk => hk.2) (.int .i64 t247)) (fun _ hk => hk.2) (.int .i64 t248)) (fun _ h_ => h_.1))) hb); replace HO246 := ak_ (Kd.R_below (by (with_reducible repeat (first | apply Kd.R_alloc | apply Kd.R_drewN | apply Kd.R_drew)); exact (Kd.R_mono (Kd.R_far (p := ⟨gb250, 2, none⟩) (Kd.R_far (p := ⟨gb250, 1, none⟩) (Kd.R_far (p := ⟨gb250, 0, none⟩) (Kd.R_types HO246.out BK250.out (by decide)) (fun _ hk => hk.2) (.slice Ao12 t244.length co12)) (fun _ hk => hk.2) (.int .i64 t247)) (fun _ hk => hk.2) (.int .i64 t248)) (fun _ h_ => h_.1))) hb); replace BK243 := ak_ (blk_below (bk_ BK243) hb); replace BK250 := ak_ (blk_below (g := gb250) (o := .cells #[.slice Ao12 t244.length co12, .int .i64 t247, .int .i64 t248] 35 (0, 0)) (by (with_reducible repeat (first | refine blk_drewN ?_ _ | refine blk_drew ?_ | refine blk_alloc ?_ _)); refine blk_put (cs := #[.slice Ao12 t244.length co12, .int .i64 t247, .int .i64 0]) ?_ 2 _ rfl; (with_reducible repeat (first | refine blk_drewN ?_ _ | refine blk_drew ?_ | refine blk_alloc ?_ _)); refine blk_put (cs := #[.slice Ao12 t244.length co12, .int .i64 0, .int .i64 0]) ?_ 1 _ rfl; (with_reducible repeat (first | refine blk_drewN ?_ _ | refine blk_drew ?_ | refine blk_alloc ?_ _)); refine blk_put (cs := #[.slice none 0 0, .int .i64 0, .int .i64 0]) ?_ 0 _ rfl; (with_reducible repeat (first | refine blk_drewN ?_ _ | refine blk_drew ?_ | refine blk_alloc ?_ _)); exact BK250.out) hb); replace HB := ak_ (below_step hb_ hb); (try clear hb); (try clear hk)))
    go_meet
    case rel => exact ⟨_, ((t249 != t242)), (by first | rfl | (simp; done) | (simp [*]; done)), H', ⟨by first | omega | exact Nat.le_refl _⟩, ⟨by (with_reducible repeat (first | apply Kd.R_alloc | apply Kd.R_drewN | apply Kd.R_drew)); exact Kd.R_mono HO239.out (fun _ hk => hk.2)⟩, ⟨by (with_reducible repeat (first | apply Kd.R_alloc | apply Kd.R_drewN | apply Kd.R_drew)); exact Kd.R_mono HO246.out (fun _ hk => hk.2)⟩, ⟨by (with_reducible repeat (first | refine blk_drewN ?_ _ | refine blk_drew ?_ | refine blk_alloc ?_ _)); exact BK243.out⟩, ⟨by (with_reducible repeat (first | refine blk_drewN ?_ _ | refine blk_drew ?_ | refine blk_alloc ?_ _)); exact BK250.out⟩, ⟨hb_⟩⟩
   ·replace c16 := Bool.eq_false_iff.mpr c16
    subst c16
    rw [if_neg (show ¬ (false = true) by decide)] at H
    have H' := Aside0.mk H
    clear H
    have hnb21 := NB250_243.out
    have hnc21 := NB243_250.out
    obtain ⟨hcz22_0, hcz22_1, hcz22_2, hfz22_0, hfz22_1, hfz22_2⟩ := bc3_ BK250.out
    obtain ⟨hcz23_0, hcz23_1, hcz23_2, hfz23_0, hfz23_1, hfz23_2⟩ := bc3_ BK243.out
    go_wp2_with (first | ((with_reducible refine gate_callee (f := 14) rfl ?_); refine goesL_ (some 26) rfl rfl Tryd.func14 (by kernel_rfl) rfl #[.agg #[.slice Ao12 t244.length co12, .int .i64 t247, .int .i64 t248], .agg #[.slice Ao8 t237.length co8, .int .i64 t240, .int .i64 t241]] rfl (ma2_ rfl rfl) ?_; (with_reducible refine (laws_eqSide.calls k _ _ t244 t247 t248 _ _ t237 t240 t241 false _ ?side1 ?side2 ?side3 ?side4 A15.out).mono ?_); (case side1 => refine (Kd.R_reads' (e := 67) (base := w.heap.size) (ok := fun k_ => (True ∧ some k_ ≠ (.slice Ao8 t237.length co8 : Value).ownBlock)) (n := t244.length) (c := co12) ?_).2.2; exact (by (with_reducible repeat (first | apply Kd.R_alloc | apply Kd.R_drewN | apply Kd.R_drew)); exact (Kd.R_mono (Kd.R_far (p := ⟨gb250, 2, none⟩) (Kd.R_far (p := ⟨gb250, 1, none⟩) (Kd.R_far (p := ⟨gb250, 0, none⟩) (Kd.R_types HO246.out BK250.out (by decide)) (fun _ hk => hk.2) (.slice Ao12 t244.length co12)) (fun _ hk => hk.2) (.int .i64 t247)) (fun _ hk => hk.2) (.int .i64 t248)) (fun _ h_ => h_.1)))); (case side2 => exact (Kd.R_reads' HO246.out).2.1); (case side3 => refine (Kd.R_reads' (e := 67) (base := w.heap.size) (ok := fun k_ => (True ∧ some k_ ≠ (.slice Ao12 t244.length co12 : Value).ownBlock)) (n := t237.length) (c := co8) ?_).2.2; exact (by (with_reducible repeat (first | apply Kd.R_alloc | apply Kd.R_drewN | apply Kd.R_drew)); exact (Kd.R_mono (Kd.R_far (p := ⟨gb250, 2, none⟩) (Kd.R_far (p := ⟨gb250, 1, none⟩) (Kd.R_far (p := ⟨gb250, 0, none⟩) (Kd.R_types HO239.out BK250.out (by decide)) (fun _ hk => hk.2) (.slice Ao12 t244.length co12)) (fun _ hk => hk.2) (.int .i64 t247)) (fun _ hk => hk.2) (.int .i64 t248)) (fun _ h_ => h_.1)))); (case side4 => exact (Kd.R_reads' HO239.out).2.1); rintro e w24 ⟨rfl, hb⟩; refine ⟨_, rfl, ?_⟩; replace HO239 := ak_ (Kd.R_below (by (with_reducible repeat (first | apply Kd.R_alloc | apply Kd.R_drewN | apply Kd.R_drew)); exact (Kd.R_mono (Kd.R_far (p := ⟨gb250, 2, none⟩) (Kd.R_far (p := ⟨gb250, 1, none⟩) (Kd.R_far (p := ⟨gb250, 0, none⟩) (Kd.R_types HO239.out BK250.out (by decide)) (fun _ hk => hk.2) (.slice Ao12 t244.length co12)) (fun _ hk => hk.2) (.int .i64 t247)) (fun _ hk => hk.2) (.int .i64 t248)) (fun _ h_ => h_.1))) hb); replace HO246 := ak_ (Kd.R_below (by (with_reducible repeat (first | apply Kd.R_alloc | apply Kd.R_drewN | apply Kd.R_drew)); exact (Kd.R_mono (Kd.R_far (p := ⟨gb250, 2, none⟩) (Kd.R_far (p := ⟨gb250, 1, none⟩) (Kd.R_far (p := ⟨gb250, 0, none⟩) (Kd.R_types HO246.out BK250.out (by decide)) (fun _ hk => hk.2) (.slice Ao12 t244.length co12)) (fun _ hk => hk.2) (.int .i64 t247)) (fun _ hk => hk.2) (.int .i64 t248)) (fun _ h_ => h_.1))) hb); replace BK243 := ak_ (blk_below (bk_ BK243) hb); replace BK250 := ak_ (blk_below (g := gb250) (o := .cells #[.slice Ao12 t244.length co12, .int .i64 t247, .int .i64 t248] 35 (0, 0)) (by (with_reducible repeat (first | refine blk_drewN ?_ _ | refine blk_drew ?_ | refine blk_alloc ?_ _)); refine blk_put (cs := #[.slice Ao12 t244.length co12, .int .i64 t247, .int .i64 0]) ?_ 2 _ rfl; (with_reducible repeat (first | refine blk_drewN ?_ _ | refine blk_drew ?_ | refine blk_alloc ?_ _)); refine blk_put (cs := #[.slice Ao12 t244.length co12, .int .i64 0, .int .i64 0]) ?_ 1 _ rfl; (with_reducible repeat (first | refine blk_drewN ?_ _ | refine blk_drew ?_ | refine blk_alloc ?_ _)); refine blk_put (cs := #[.slice none 0 0, .int .i64 0, .int .i64 0]) ?_ 0 _ rfl; (with_reducible repeat (first | refine blk_drewN ?_ _ | refine blk_drew ?_ | refine blk_alloc ?_ _)); exact BK250.out) hb); replace HB := ak_ (below_step hb_ hb); (try clear hb); (try clear hk)))
    go_meet
    case rel => exact ⟨_, (true), (by first | rfl | (simp; done) | (simp [*]; done)), H', ⟨by first | omega | exact Nat.le_refl _⟩, ⟨by (with_reducible repeat (first | apply Kd.R_alloc | apply Kd.R_drewN | apply Kd.R_drew)); exact Kd.R_mono HO239.out (fun _ hk => hk.2)⟩, ⟨by (with_reducible repeat (first | apply Kd.R_alloc | apply Kd.R_drewN | apply Kd.R_drew)); exact Kd.R_mono HO246.out (fun _ hk => hk.2)⟩, ⟨by (with_reducible repeat (first | refine blk_drewN ?_ _ | refine blk_drew ?_ | refine blk_alloc ?_ _)); exact BK243.out⟩, ⟨by (with_reducible repeat (first | refine blk_drewN ?_ _ | refine blk_drew ?_ | refine blk_alloc ?_ _)); exact BK250.out⟩, ⟨hb_⟩⟩
  case rest =>
   clear HC5
   try clear c1
   try clear c2
   try clear c2b0
   try clear c2b1
   try clear p2
   try clear c6
   try clear c13
   try clear c14
   try clear c16
   try clear c17
   try clear c20
   try clear c21
   try clear hcz14_0
   try clear hcz14_1
   try clear hcz14_2
   try clear hcz18_0
   try clear hcz18_1
   try clear hcz18_2
   try clear hcz19_0
   try clear hcz19_1
   try clear hcz19_2
   try clear hcz22_0
   try clear hcz22_1
   try clear hcz22_2
   try clear hcz23_0
   try clear hcz23_1
   try clear hcz23_2
   try clear hcz9_0
   try clear hcz9_1
   try clear hcz9_2
   try clear hfz14_0
   try clear hfz14_1
   try clear hfz14_2
   try clear hfz18_0
   try clear hfz18_1
   try clear hfz18_2
   try clear hfz19_0
   try clear hfz19_1
   try clear hfz19_2
   try clear hfz22_0
   try clear hfz22_1
   try clear hfz22_2
   try clear hfz23_0
   try clear hfz23_1
   try clear hfz23_2
   try clear hfz9_0
   try clear hfz9_1
   try clear hfz9_2
   obtain ⟨kq, x32_4, rfl, HA, HJ4, HO_244000, HO_251000, BK243, BK250, HB⟩ := hcut
   cases kq with
   | zero => exact absurd HA.out (by simp [laws_FnExactParseSide.j0])
   | succ kj4 =>
    have H := HA.out
    clear HA
    simp only [laws_FnExactParseSide.j0] at H
    by_cases c25 : x32_4 = true
    ·subst c25
     rw [if_pos rfl] at H
     exact absurd (Option.some.inj H) (by rw [hrT.out]; decide)
    ·replace c25 := Bool.eq_false_iff.mpr c25
     subst c25
     rw [if_neg (show ¬ (false = true) by decide)] at H
     replace H := Option.bind_eq_some_iff.mp H
     obtain ⟨⟨t252, t253⟩, A260, H⟩ := H
     replace H : ((laws_heldSide.f kj4 t253 t247 t248 1).bind fun t254 => (if t254 < 0 then (some false) else (if t254 = t252 then ((impl_ParseSide.f kj4 a0).bind fun bt255 => ((laws_eqSide.f kj4 bt255.1 bt255.2.1 bt255.2.2.1 t237 t240 t241).bind fun t262 => (if t262 = true then (laws_FnExactParseSide.j1 kj4 t252 (bt255.2.2.2 != t242) t253 t247 t248) else (laws_FnExactParseSide.j1 kj4 t252 true t253 t247 t248)))) else (some false)))) = some r := H
     have A26 := Aside0.mk A260
     clear A260
     replace H := Option.bind_eq_some_iff.mp H
     obtain ⟨t254, A270, H⟩ := H
     replace H : (if t254 < 0 then (some false) else (if t254 = t252 then ((impl_ParseSide.f kj4 a0).bind fun bt255 => ((laws_eqSide.f kj4 bt255.1 bt255.2.1 bt255.2.2.1 t237 t240 t241).bind fun t262 => (if t262 = true then (laws_FnExactParseSide.j1 kj4 t252 (bt255.2.2.2 != t242) t253 t247 t248) else (laws_FnExactParseSide.j1 kj4 t252 true t253 t247 t248)))) else (some false))) = some r := H
     have A27 := Aside0.mk A270
     clear A270
     by_cases c28 : t254 < 0
     ·rw [if_pos c28] at H
      have c28b0 : decide (t254 < 0) = true := decide_eq_true c28
      clear c28
      exact absurd (Option.some.inj H) (by rw [hrT.out]; decide)
     ·rw [if_neg c28] at H
      have c28b0 : decide (t254 < 0) = false := decide_eq_false c28
      clear c28
      by_cases c29 : t254 = t252
      ·rw [if_pos c29] at H
       have c29b0 : (t254 == t252) = true := beq_iff_eq.mpr c29
       have c29b1 : (t254 != t252) = false := bne_eq_false_iff_eq.mpr c29
       clear c29
       replace H := Option.bind_eq_some_iff.mp H
       obtain ⟨⟨t255, t258, t259, t260⟩, A300, H⟩ := H
       replace H : ((laws_eqSide.f kj4 t255 t258 t259 t237 t240 t241).bind fun t262 => (if t262 = true then (laws_FnExactParseSide.j1 kj4 t252 (t260 != t242) t253 t247 t248) else (laws_FnExactParseSide.j1 kj4 t252 true t253 t247 t248))) = some r := H
       have A30 := Aside0.mk A300
       clear A300
       have HC31 := Aside0.mk H
       clear H
       have hnb32 := NB250_243.out
       have hnc32 := NB243_250.out
       obtain ⟨hcz33_0, hcz33_1, hcz33_2, hfz33_0, hfz33_1, hfz33_2⟩ := bc3_ BK250.out
       go_upto_region 16 with (first | ((with_reducible refine gate_callee (f := 22) rfl ?_); refine goesL_ (some 35) rfl rfl Tryd.func22 (by kernel_rfl) rfl #[.agg #[.slice Ao12 t244.length co12, .int .i64 t247, .int .i64 t248], .int .i64 1] rfl (ma2_ rfl rfl) ?_; (with_reducible refine (laws_markSide.calls kj4 (fun k_ => some k_ = (.slice Ao12 t244.length co12 : Value).ownBlock) (.slice Ao12 t244.length co12) t244 t247 t248 1 t252 t253 w _ ?side1 ?side2 A26.out).mono ?_); (case side1 => repeat (first | (with_reducible first | exact HB.out | apply below_alloc | apply pw_below_drewN | apply below_drew1 | refine below_set ?_ GE243.out | refine below_set ?_ GE250.out) | exact HB.out)); (case side2 => exact Kd.R_tight rfl HO_251000.out); rintro e w34 ⟨rfl, hy0, hb, hkp⟩; refine ⟨_, rfl, ?_⟩; replace HO_244000 := ak_ (Kd.R_mono (ok' := fun k_ => some k_ ≠ (.slice Ao12 t244.length co12 : Value).ownBlock) (Kd.R_keptB (HO_244000.out) hkp (fun k_ hk_ hs_ => (hk_) hs_)) (fun k_ hk_ => hk_.1)); replace BK243 := ak_ (blk_kept (by (with_reducible repeat (first | refine blk_drewN ?_ _ | refine blk_drew ?_ | refine blk_alloc ?_ _)); exact BK243.out) hkp (fun hs_ => (fun e_ => (Kd.R_ne HO_251000.out BK243.out (by decide)) e_) hs_)); replace BK250 := ak_ (blk_kept (by (with_reducible repeat (first | refine blk_drewN ?_ _ | refine blk_drew ?_ | refine blk_alloc ?_ _)); exact BK250.out) hkp (fun hs_ => (fun e_ => (Kd.R_ne HO_251000.out BK250.out (by decide)) e_) hs_)); replace HO_251000 := ak_ (Kd.R_reok rfl hy0 (fun k_ e_ => HO_251000.out.1 k_ e_)); replace HB := ak_ hb; (try clear hb); (try clear hkp); (try clear hy0); obtain ⟨hcz35_0, hcz35_1, hcz35_2, hfz35_0, hfz35_1, hfz35_2⟩ := bc3_ BK250.out) | ((with_reducible refine gate_callee (f := 23) rfl ?_); refine goesL_ (some 38) rfl rfl Tryd.func23 (by kernel_rfl) rfl #[.agg #[.slice Ao12 t253.length co12, .int .i64 t247, .int .i64 t248], .int .i64 1] rfl (by (try simp only [List.map_toArray, List.map_cons, List.map_nil]); first | done | (rw [show t253.length = t244.length from (Kd.R_reads' HO_251000.out).1.symm] <;> rfl) | rfl | (simp only [List.length_drop, List.length_take]; rfl)) ?_; (with_reducible refine (laws_heldSide.calls kj4 _ _ t253 t247 t248 1 t254 _ ?side1 ?side2 A27.out).mono ?_); (case side1 => repeat (first | exact (Kd.R_reads' HO_251000.out).2.2 | (with_reducible refine Kd.C_alloc ?_ _) | (with_reducible refine Kd.C_drewN ?_ _) | (with_reducible refine Kd.C_drew ?_))); (case side2 => rw [show t253.length = t244.length from (Kd.R_reads' HO_251000.out).1.symm]; exact (Kd.R_reads' HO_251000.out).2.1); rintro e w36 ⟨rfl, hb⟩; refine ⟨_, rfl, ?_⟩; replace HO_244000 := ak_ (Kd.R_below (by (with_reducible repeat (first | apply Kd.R_alloc | apply Kd.R_drewN | apply Kd.R_drew)); exact HO_244000.out) hb); replace HO_251000 := ak_ (Kd.R_below (by (with_reducible repeat (first | apply Kd.R_alloc | apply Kd.R_drewN | apply Kd.R_drew)); exact HO_251000.out) hb); replace BK243 := ak_ (blk_below (bk_ BK243) hb); replace BK250 := ak_ (blk_below (bk_ BK250) hb); replace HB := ak_ (below_step hb_ hb); (try clear hb)) | ((with_reducible refine gate_callee (f := 21) rfl ?_); refine goesL_ (some 46) rfl rfl Tryd.func21 (by kernel_rfl) rfl #[.string a0] rfl (ma1_ rfl) ?_; (with_reducible refine (impl_ParseSide.calls kj4 a0 t255 t258 t259 t260 _ ?sideL A30.out).mono ?_); (case sideL => refine lay_at HLAY.out ?_; repeat (first | (with_reducible first | exact HB.out | apply below_alloc | apply pw_below_drewN | apply below_drew1 | refine below_set ?_ GE243.out | refine below_set ?_ GE250.out) | exact HB.out)); rintro e w37 ⟨v256, rfl, ho0, hb⟩; refine ⟨_, rfl, ?_⟩; have HO257 := ak_ (Kd.R_lower (Kd.R_new' (Kd.R_new' ho0 (Kd.R_lt (by (with_reducible repeat (first | apply Kd.R_alloc | apply Kd.R_drewN | apply Kd.R_drew)); exact HO_244000.out))) (Kd.R_lt (by (with_reducible repeat (first | apply Kd.R_alloc | apply Kd.R_drewN | apply Kd.R_drew)); exact HO_251000.out))) (below_size hb_)); replace HO_244000 := ak_ (Kd.R_elder' (by (with_reducible repeat (first | apply Kd.R_alloc | apply Kd.R_drewN | apply Kd.R_drew)); exact HO_244000.out) (Kd.R_base ho0) hb); replace HO_251000 := ak_ (Kd.R_elder' (by (with_reducible repeat (first | apply Kd.R_alloc | apply Kd.R_drewN | apply Kd.R_drew)); exact HO_251000.out) (Kd.R_base ho0) hb); replace BK243 := ak_ (blk_below (bk_ BK243) hb); replace BK250 := ak_ (blk_below (bk_ BK250) hb); replace HB := ak_ (below_step hb_ hb); (try clear hb); (try clear ho0)) | ((with_reducible refine gate_dst (N := 9) rfl ?_); refine be_ (N := 9) (cs := #[.slice none 0 0, .int .i64 0, .int .i64 0]) (t := 35) ?_; intro gb261 hg w38 hbox hb; replace HO_244000 := ak_ (Kd.R_below (by (with_reducible repeat (first | apply Kd.R_alloc | apply Kd.R_drewN | apply Kd.R_drew)); exact HO_244000.out) hb); replace HO_251000 := ak_ (Kd.R_below (by (with_reducible repeat (first | apply Kd.R_alloc | apply Kd.R_drewN | apply Kd.R_drew)); exact HO_251000.out) hb); replace HO257 := ak_ (Kd.R_below (by (with_reducible repeat (first | apply Kd.R_alloc | apply Kd.R_drewN | apply Kd.R_drew)); exact HO257.out) hb); have BK261 := ak_ hbox; have GW261 := ak_ ((gs_ hg : w.heap.size ≤ gb261)); have GE261 := ak_ ((gs_ hg : w.heap.size ≤ gb261)); replace HB := ak_ (below_step hb_ hb); have NB243_261 := ak_ (nl_ hg (bk_ BK243)); have NB261_243 := ak_ (ng_ hg (bk_ BK243)); replace BK243 := ak_ (blk_below (bk_ BK243) hb); have NB250_261 := ak_ (nl_ hg (bk_ BK250)); have NB261_250 := ak_ (ng_ hg (bk_ BK250)); replace BK250 := ak_ (blk_below (bk_ BK250) hb); clear hb hbox hg; obtain ⟨Ao39, co39, eo39⟩ := Kd.R_slice HO257.out; subst eo39; have hnb40 := NB261_243.out; have hnc40 := NB243_261.out; have hnb41 := NB261_250.out; have hnc41 := NB250_261.out; obtain ⟨hcz42_0, hcz42_1, hcz42_2, hfz42_0, hfz42_1, hfz42_2⟩ := bc3_ BK261.out))
       (try simp only [Act.put, List.setIfInBounds_toArray, List.set_cons_zero, List.set_cons_succ])
       go_cut [57] (fun v57 wc => ∃ (kq : Nat) (x57_30 : Bool), v57 = .bool x57_30 ∧ Aside0 (laws_FnExactParseSide.j1 kq t252 x57_30 t253 t247 t248 = some r) ∧ Aside0 (kq ≤ kj4) ∧ Aside0 (Kd.R k67 67 wc w.heap.size (fun k_ => some k_ ≠ ((.slice Ao12 t244.length co12) : Value).ownBlock ∧ some k_ ≠ ((.slice Ao39 t255.length co39) : Value).ownBlock) (.slice Ao8 t237.length co8) t237) ∧ Aside0 (Kd.R k67 67 wc w.heap.size (fun k_ => some k_ ≠ ((.slice Ao8 t237.length co8) : Value).ownBlock ∧ some k_ ≠ ((.slice Ao39 t255.length co39) : Value).ownBlock) (.slice Ao12 t244.length co12) t253) ∧ Aside0 (Kd.R k67 67 wc w.heap.size (fun k_ => some k_ ≠ ((.slice Ao8 t237.length co8) : Value).ownBlock ∧ some k_ ≠ ((.slice Ao12 t244.length co12) : Value).ownBlock) (.slice Ao39 t255.length co39) t255) ∧ Aside0 (wc.heap[gb243]? = some (.cells #[(.slice Ao8 t237.length co8), .int .i64 t240, .int .i64 t241] 35 (0, 0))) ∧ Aside0 (wc.heap[gb250]? = some (.cells #[(.slice Ao12 t244.length co12), .int .i64 t247, .int .i64 t248] 35 (0, 0))) ∧ Aside0 (wc.heap[gb261]? = some (.cells #[(.slice Ao39 t255.length co39), .int .i64 t258, .int .i64 t259] 35 (0, 0))) ∧ Aside0 (Below w.heap.size w wc))
       case first =>
        have H := HC31.out
        clear HC31
        replace H := Option.bind_eq_some_iff.mp H
        obtain ⟨t262, A430, H⟩ := H
        replace H : (if t262 = true then (laws_FnExactParseSide.j1 kj4 t252 (t260 != t242) t253 t247 t248) else (laws_FnExactParseSide.j1 kj4 t252 true t253 t247 t248)) = some r := H
        have A43 := Aside0.mk A430
        clear A430
        by_cases c44 : t262 = true
        ·subst c44
         rw [if_pos rfl] at H
         have H' := Aside0.mk H
         clear H
         have hnb45 := NB261_243.out
         have hnc45 := NB243_261.out
         have hnb46 := NB261_250.out
         have hnc46 := NB250_261.out
         obtain ⟨hcz47_0, hcz47_1, hcz47_2, hfz47_0, hfz47_1, hfz47_2⟩ := bc3_ BK261.out
         have hnb48 := NB243_250.out
         have hnc48 := NB250_243.out
         obtain ⟨hcz49_0, hcz49_1, hcz49_2, hfz49_0, hfz49_1, hfz49_2⟩ := bc3_ BK243.out
         go_wp2_with (first | ((with_reducible refine gate_callee (f := 14) rfl ?_); refine goesL_ (some 51) rfl rfl Tryd.func14 (by kernel_rfl) rfl #[.agg #[.slice Ao39 t255.length co39, .int .i64 t258, .int .i64 t259], .agg #[.slice Ao8 t237.length co8, .int .i64 t240, .int .i64 t241]] rfl (ma2_ rfl rfl) ?_; (with_reducible refine (laws_eqSide.calls kj4 _ _ t255 t258 t259 _ _ t237 t240 t241 true _ ?side1 ?side2 ?side3 ?side4 A43.out).mono ?_); (case side1 => refine (Kd.R_reads' (e := 67) (base := w.heap.size) (ok := fun k_ => ((True ∧ some k_ ≠ (.slice Ao8 t237.length co8 : Value).ownBlock) ∧ some k_ ≠ (.slice Ao12 t244.length co12 : Value).ownBlock)) (n := t255.length) (c := co39) ?_).2.2; exact (by (with_reducible repeat (first | apply Kd.R_alloc | apply Kd.R_drewN | apply Kd.R_drew)); exact (Kd.R_mono (Kd.R_far (p := ⟨gb261, 2, none⟩) (Kd.R_far (p := ⟨gb261, 1, none⟩) (Kd.R_far (p := ⟨gb261, 0, none⟩) (Kd.R_types HO257.out BK261.out (by decide)) (fun _ hk => hk.2) (.slice Ao39 t255.length co39)) (fun _ hk => hk.2) (.int .i64 t258)) (fun _ hk => hk.2) (.int .i64 t259)) (fun _ h_ => h_.1)))); (case side2 => exact (Kd.R_reads' HO257.out).2.1); (case side3 => refine (Kd.R_reads' (e := 67) (base := w.heap.size) (ok := fun k_ => (some k_ ≠ (.slice Ao12 t244.length co12 : Value).ownBlock ∧ some k_ ≠ (.slice Ao39 t255.length co39 : Value).ownBlock)) (n := t237.length) (c := co8) ?_).2.2; exact (by (with_reducible repeat (first | apply Kd.R_alloc | apply Kd.R_drewN | apply Kd.R_drew)); exact (Kd.R_mono (Kd.R_far (p := ⟨gb261, 2, none⟩) (Kd.R_far (p := ⟨gb261, 1, none⟩) (Kd.R_far (p := ⟨gb261, 0, none⟩) (Kd.R_types HO_244000.out BK261.out (by decide)) (fun _ hk => hk.2) (.slice Ao39 t255.length co39)) (fun _ hk => hk.2) (.int .i64 t258)) (fun _ hk => hk.2) (.int .i64 t259)) (fun _ h_ => h_.1)))); (case side4 => exact (Kd.R_reads' HO_244000.out).2.1); rintro e w50 ⟨rfl, hb⟩; refine ⟨_, rfl, ?_⟩; replace HO_244000 := ak_ (Kd.R_below (by (with_reducible repeat (first | apply Kd.R_alloc | apply Kd.R_drewN | apply Kd.R_drew)); exact (Kd.R_mono (Kd.R_far (p := ⟨gb261, 2, none⟩) (Kd.R_far (p := ⟨gb261, 1, none⟩) (Kd.R_far (p := ⟨gb261, 0, none⟩) (Kd.R_types HO_244000.out BK261.out (by decide)) (fun _ hk => hk.2) (.slice Ao39 t255.length co39)) (fun _ hk => hk.2) (.int .i64 t258)) (fun _ hk => hk.2) (.int .i64 t259)) (fun _ h_ => h_.1))) hb); replace HO_251000 := ak_ (Kd.R_below (by (with_reducible repeat (first | apply Kd.R_alloc | apply Kd.R_drewN | apply Kd.R_drew)); exact (Kd.R_mono (Kd.R_far (p := ⟨gb261, 2, none⟩) (Kd.R_far (p := ⟨gb261, 1, none⟩) (Kd.R_far (p := ⟨gb261, 0, none⟩) (Kd.R_types HO_251000.out BK261.out (by decide)) (fun _ hk => hk.2) (.slice Ao39 t255.length co39)) (fun _ hk => hk.2) (.int .i64 t258)) (fun _ hk => hk.2) (.int .i64 t259)) (fun _ h_ => h_.1))) hb); replace HO257 := ak_ (Kd.R_below (by (with_reducible repeat (first | apply Kd.R_alloc | apply Kd.R_drewN | apply Kd.R_drew)); exact (Kd.R_mono (Kd.R_far (p := ⟨gb261, 2, none⟩) (Kd.R_far (p := ⟨gb261, 1, none⟩) (Kd.R_far (p := ⟨gb261, 0, none⟩) (Kd.R_types HO257.out BK261.out (by decide)) (fun _ hk => hk.2) (.slice Ao39 t255.length co39)) (fun _ hk => hk.2) (.int .i64 t258)) (fun _ hk => hk.2) (.int .i64 t259)) (fun _ h_ => h_.1))) hb); replace BK243 := ak_ (blk_below (bk_ BK243) hb); replace BK250 := ak_ (blk_below (bk_ BK250) hb); replace BK261 := ak_ (blk_below (g := gb261) (o := .cells #[.slice Ao39 t255.length co39, .int .i64 t258, .int .i64 t259] 35 (0, 0)) (by (with_reducible repeat (first | refine blk_drewN ?_ _ | refine blk_drew ?_ | refine blk_alloc ?_ _)); refine blk_put (cs := #[.slice Ao39 t255.length co39, .int .i64 t258, .int .i64 0]) ?_ 2 _ rfl; (with_reducible repeat (first | refine blk_drewN ?_ _ | refine blk_drew ?_ | refine blk_alloc ?_ _)); refine blk_put (cs := #[.slice Ao39 t255.length co39, .int .i64 0, .int .i64 0]) ?_ 1 _ rfl; (with_reducible repeat (first | refine blk_drewN ?_ _ | refine blk_drew ?_ | refine blk_alloc ?_ _)); refine blk_put (cs := #[.slice none 0 0, .int .i64 0, .int .i64 0]) ?_ 0 _ rfl; (with_reducible repeat (first | refine blk_drewN ?_ _ | refine blk_drew ?_ | refine blk_alloc ?_ _)); exact BK261.out) hb); replace HB := ak_ (below_step hb_ hb); (try clear hb); (try clear hk)))
         go_meet
         case rel => exact ⟨_, ((t260 != t242)), (by first | rfl | (simp; done) | (simp [*]; done)), H', ⟨by have := HJ4.out; first | omega | exact Nat.le_refl _⟩, ⟨by (with_reducible repeat (first | apply Kd.R_alloc | apply Kd.R_drewN | apply Kd.R_drew)); exact HO_244000.out⟩, ⟨by (with_reducible repeat (first | apply Kd.R_alloc | apply Kd.R_drewN | apply Kd.R_drew)); exact HO_251000.out⟩, ⟨by (with_reducible repeat (first | apply Kd.R_alloc | apply Kd.R_drewN | apply Kd.R_drew)); exact Kd.R_mono HO257.out (fun _ hk => ⟨hk.1.2, hk.2⟩)⟩, ⟨by (with_reducible repeat (first | refine blk_drewN ?_ _ | refine blk_drew ?_ | refine blk_alloc ?_ _)); exact BK243.out⟩, ⟨by (with_reducible repeat (first | refine blk_drewN ?_ _ | refine blk_drew ?_ | refine blk_alloc ?_ _)); exact BK250.out⟩, ⟨by (with_reducible repeat (first | refine blk_drewN ?_ _ | refine blk_drew ?_ | refine blk_alloc ?_ _)); exact BK261.out⟩, ⟨hb_⟩⟩
        ·replace c44 := Bool.eq_false_iff.mpr c44
         subst c44
         rw [if_neg (show ¬ (false = true) by decide)] at H
         have H' := Aside0.mk H
         clear H
         have hnb51 := NB261_243.out
         have hnc51 := NB243_261.out
         have hnb52 := NB261_250.out
         have hnc52 := NB250_261.out
         obtain ⟨hcz53_0, hcz53_1, hcz53_2, hfz53_0, hfz53_1, hfz53_2⟩ := bc3_ BK261.out
         have hnb54 := NB243_250.out
         have hnc54 := NB250_243.out
         obtain ⟨hcz55_0, hcz55_1, hcz55_2, hfz55_0, hfz55_1, hfz55_2⟩ := bc3_ BK243.out
         go_wp2_with (first | ((with_reducible refine gate_callee (f := 14) rfl ?_); refine goesL_ (some 51) rfl rfl Tryd.func14 (by kernel_rfl) rfl #[.agg #[.slice Ao39 t255.length co39, .int .i64 t258, .int .i64 t259], .agg #[.slice Ao8 t237.length co8, .int .i64 t240, .int .i64 t241]] rfl (ma2_ rfl rfl) ?_; (with_reducible refine (laws_eqSide.calls kj4 _ _ t255 t258 t259 _ _ t237 t240 t241 false _ ?side1 ?side2 ?side3 ?side4 A43.out).mono ?_); (case side1 => refine (Kd.R_reads' (e := 67) (base := w.heap.size) (ok := fun k_ => ((True ∧ some k_ ≠ (.slice Ao8 t237.length co8 : Value).ownBlock) ∧ some k_ ≠ (.slice Ao12 t244.length co12 : Value).ownBlock)) (n := t255.length) (c := co39) ?_).2.2; exact (by (with_reducible repeat (first | apply Kd.R_alloc | apply Kd.R_drewN | apply Kd.R_drew)); exact (Kd.R_mono (Kd.R_far (p := ⟨gb261, 2, none⟩) (Kd.R_far (p := ⟨gb261, 1, none⟩) (Kd.R_far (p := ⟨gb261, 0, none⟩) (Kd.R_types HO257.out BK261.out (by decide)) (fun _ hk => hk.2) (.slice Ao39 t255.length co39)) (fun _ hk => hk.2) (.int .i64 t258)) (fun _ hk => hk.2) (.int .i64 t259)) (fun _ h_ => h_.1)))); (case side2 => exact (Kd.R_reads' HO257.out).2.1); (case side3 => refine (Kd.R_reads' (e := 67) (base := w.heap.size) (ok := fun k_ => (some k_ ≠ (.slice Ao12 t244.length co12 : Value).ownBlock ∧ some k_ ≠ (.slice Ao39 t255.length co39 : Value).ownBlock)) (n := t237.length) (c := co8) ?_).2.2; exact (by (with_reducible repeat (first | apply Kd.R_alloc | apply Kd.R_drewN | apply Kd.R_drew)); exact (Kd.R_mono (Kd.R_far (p := ⟨gb261, 2, none⟩) (Kd.R_far (p := ⟨gb261, 1, none⟩) (Kd.R_far (p := ⟨gb261, 0, none⟩) (Kd.R_types HO_244000.out BK261.out (by decide)) (fun _ hk => hk.2) (.slice Ao39 t255.length co39)) (fun _ hk => hk.2) (.int .i64 t258)) (fun _ hk => hk.2) (.int .i64 t259)) (fun _ h_ => h_.1)))); (case side4 => exact (Kd.R_reads' HO_244000.out).2.1); rintro e w56 ⟨rfl, hb⟩; refine ⟨_, rfl, ?_⟩; replace HO_244000 := ak_ (Kd.R_below (by (with_reducible repeat (first | apply Kd.R_alloc | apply Kd.R_drewN | apply Kd.R_drew)); exact (Kd.R_mono (Kd.R_far (p := ⟨gb261, 2, none⟩) (Kd.R_far (p := ⟨gb261, 1, none⟩) (Kd.R_far (p := ⟨gb261, 0, none⟩) (Kd.R_types HO_244000.out BK261.out (by decide)) (fun _ hk => hk.2) (.slice Ao39 t255.length co39)) (fun _ hk => hk.2) (.int .i64 t258)) (fun _ hk => hk.2) (.int .i64 t259)) (fun _ h_ => h_.1))) hb); replace HO_251000 := ak_ (Kd.R_below (by (with_reducible repeat (first | apply Kd.R_alloc | apply Kd.R_drewN | apply Kd.R_drew)); exact (Kd.R_mono (Kd.R_far (p := ⟨gb261, 2, none⟩) (Kd.R_far (p := ⟨gb261, 1, none⟩) (Kd.R_far (p := ⟨gb261, 0, none⟩) (Kd.R_types HO_251000.out BK261.out (by decide)) (fun _ hk => hk.2) (.slice Ao39 t255.length co39)) (fun _ hk => hk.2) (.int .i64 t258)) (fun _ hk => hk.2) (.int .i64 t259)) (fun _ h_ => h_.1))) hb); replace HO257 := ak_ (Kd.R_below (by (with_reducible repeat (first | apply Kd.R_alloc | apply Kd.R_drewN | apply Kd.R_drew)); exact (Kd.R_mono (Kd.R_far (p := ⟨gb261, 2, none⟩) (Kd.R_far (p := ⟨gb261, 1, none⟩) (Kd.R_far (p := ⟨gb261, 0, none⟩) (Kd.R_types HO257.out BK261.out (by decide)) (fun _ hk => hk.2) (.slice Ao39 t255.length co39)) (fun _ hk => hk.2) (.int .i64 t258)) (fun _ hk => hk.2) (.int .i64 t259)) (fun _ h_ => h_.1))) hb); replace BK243 := ak_ (blk_below (bk_ BK243) hb); replace BK250 := ak_ (blk_below (bk_ BK250) hb); replace BK261 := ak_ (blk_below (g := gb261) (o := .cells #[.slice Ao39 t255.length co39, .int .i64 t258, .int .i64 t259] 35 (0, 0)) (by (with_reducible repeat (first | refine blk_drewN ?_ _ | refine blk_drew ?_ | refine blk_alloc ?_ _)); refine blk_put (cs := #[.slice Ao39 t255.length co39, .int .i64 t258, .int .i64 0]) ?_ 2 _ rfl; (with_reducible repeat (first | refine blk_drewN ?_ _ | refine blk_drew ?_ | refine blk_alloc ?_ _)); refine blk_put (cs := #[.slice Ao39 t255.length co39, .int .i64 0, .int .i64 0]) ?_ 1 _ rfl; (with_reducible repeat (first | refine blk_drewN ?_ _ | refine blk_drew ?_ | refine blk_alloc ?_ _)); refine blk_put (cs := #[.slice none 0 0, .int .i64 0, .int .i64 0]) ?_ 0 _ rfl; (with_reducible repeat (first | refine blk_drewN ?_ _ | refine blk_drew ?_ | refine blk_alloc ?_ _)); exact BK261.out) hb); replace HB := ak_ (below_step hb_ hb); (try clear hb); (try clear hk)))
         go_meet
         case rel => exact ⟨_, (true), (by first | rfl | (simp; done) | (simp [*]; done)), H', ⟨by have := HJ4.out; first | omega | exact Nat.le_refl _⟩, ⟨by (with_reducible repeat (first | apply Kd.R_alloc | apply Kd.R_drewN | apply Kd.R_drew)); exact HO_244000.out⟩, ⟨by (with_reducible repeat (first | apply Kd.R_alloc | apply Kd.R_drewN | apply Kd.R_drew)); exact HO_251000.out⟩, ⟨by (with_reducible repeat (first | apply Kd.R_alloc | apply Kd.R_drewN | apply Kd.R_drew)); exact Kd.R_mono HO257.out (fun _ hk => ⟨hk.1.2, hk.2⟩)⟩, ⟨by (with_reducible repeat (first | refine blk_drewN ?_ _ | refine blk_drew ?_ | refine blk_alloc ?_ _)); exact BK243.out⟩, ⟨by (with_reducible repeat (first | refine blk_drewN ?_ _ | refine blk_drew ?_ | refine blk_alloc ?_ _)); exact BK250.out⟩, ⟨by (with_reducible repeat (first | refine blk_drewN ?_ _ | refine blk_drew ?_ | refine blk_alloc ?_ _)); exact BK261.out⟩, ⟨hb_⟩⟩
       case rest =>
        clear HC31
        try clear c1
        try clear c2
        try clear c2b0
        try clear c2b1
        try clear p2
        try clear c3
        try clear c4
        try clear c5
        try clear c6
        try clear c13
        try clear c14
        try clear c16
        try clear c17
        try clear c20
        try clear c21
        try clear c22
        try clear c23
        try clear c25
        try clear c28
        try clear c28b0
        try clear c29
        try clear c29b0
        try clear c29b1
        try clear c32
        try clear c40
        try clear c41
        try clear c44
        try clear c45
        try clear c46
        try clear c48
        try clear c51
        try clear c52
        try clear c54
        try clear hcz14_0
        try clear hcz14_1
        try clear hcz14_2
        try clear hcz18_0
        try clear hcz18_1
        try clear hcz18_2
        try clear hcz19_0
        try clear hcz19_1
        try clear hcz19_2
        try clear hcz22_0
        try clear hcz22_1
        try clear hcz22_2
        try clear hcz23_0
        try clear hcz23_1
        try clear hcz23_2
        try clear hcz33_0
        try clear hcz33_1
        try clear hcz33_2
        try clear hcz35_0
        try clear hcz35_1
        try clear hcz35_2
        try clear hcz42_0
        try clear hcz42_1
        try clear hcz42_2
        try clear hcz47_0
        try clear hcz47_1
        try clear hcz47_2
        try clear hcz49_0
        try clear hcz49_1
        try clear hcz49_2
        try clear hcz53_0
        try clear hcz53_1
        try clear hcz53_2
        try clear hcz55_0
        try clear hcz55_1
        try clear hcz55_2
        try clear hcz9_0
        try clear hcz9_1
        try clear hcz9_2
        try clear hfz14_0
        try clear hfz14_1
        try clear hfz14_2
        try clear hfz18_0
        try clear hfz18_1
        try clear hfz18_2
        try clear hfz19_0
        try clear hfz19_1
        try clear hfz19_2
        try clear hfz22_0
        try clear hfz22_1
        try clear hfz22_2
        try clear hfz23_0
        try clear hfz23_1
        try clear hfz23_2
        try clear hfz33_0
        try clear hfz33_1
        try clear hfz33_2
        try clear hfz35_0
        try clear hfz35_1
        try clear hfz35_2
        try clear hfz42_0
        try clear hfz42_1
        try clear hfz42_2
        try clear hfz47_0
        try clear hfz47_1
        try clear hfz47_2
        try clear hfz49_0
        try clear hfz49_1
        try clear hfz49_2
        try clear hfz53_0
        try clear hfz53_1
        try clear hfz53_2
        try clear hfz55_0
        try clear hfz55_1
        try clear hfz55_2
        try clear hfz9_0
        try clear hfz9_1
        try clear hfz9_2
        try clear p2
        obtain ⟨kq, x57_30, rfl, HA, HJ30, HO_244000, HO_251000, HO_262000, BK243, BK250, BK261, HB⟩ := hcut
        have hl251000_30 := (Kd.R_reads' HO_251000.out).1
        rw [hl251000_30] at HO_251000
        (try simp only [hl251000_30])
        (try simp only [hl251000_30] at BK243)
        (try simp only [hl251000_30] at BK250)
        (try simp only [hl251000_30] at BK261)
        (try simp only [hl251000_30] at HO_244000)
        (try simp only [hl251000_30] at HO_262000)
        cases kq with
        | zero => exact absurd HA.out (by simp [laws_FnExactParseSide.j1])
        | succ kj30 =>
         have H := HA.out
         clear HA
         simp only [laws_FnExactParseSide.j1] at H
         by_cases c57 : x57_30 = true
         ·subst c57
          rw [if_pos rfl] at H
          exact absurd (Option.some.inj H) (by rw [hrT.out]; decide)
         ·replace c57 := Bool.eq_false_iff.mpr c57
          subst c57
          rw [if_neg (show ¬ (false = true) by decide)] at H
          replace H := Option.bind_eq_some_iff.mp H
          obtain ⟨t263, A580, H⟩ := H
          replace H : (if t263 < 0 then (some false) else (if t263 = t252 then (some true) else (some false))) = some r := H
          have A58 := Aside0.mk A580
          clear A580
          by_cases c59 : t263 < 0
          ·rw [if_pos c59] at H
           have c59b0 : decide (t263 < 0) = true := decide_eq_true c59
           clear c59
           exact absurd (Option.some.inj H) (by rw [hrT.out]; decide)
          ·rw [if_neg c59] at H
           have c59b0 : decide (t263 < 0) = false := decide_eq_false c59
           clear c59
           by_cases c60 : t263 = t252
           ·rw [if_pos c60] at H
            have c60b0 : (t263 == t252) = true := beq_iff_eq.mpr c60
            have c60b1 : (t263 != t252) = false := bne_eq_false_iff_eq.mpr c60
            clear c60
            obtain rfl := Option.some.inj H
            have hnb61 := NB250_243.out
            have hnc61 := NB243_250.out
            have hnb62 := NB250_261.out
            have hnc62 := NB261_250.out
            obtain ⟨hcz63_0, hcz63_1, hcz63_2, hfz63_0, hfz63_1, hfz63_2⟩ := bc3_ BK250.out
            go_wp2_with (first | ((with_reducible refine gate_callee (f := 23) rfl ?_); refine goesL_ (some 60) rfl rfl Tryd.func23 (by kernel_rfl) rfl #[.agg #[.slice Ao12 t253.length co12, .int .i64 t247, .int .i64 t248], .int .i64 1] rfl (ma2_ rfl rfl) ?_; (with_reducible refine (laws_heldSide.calls kj30 _ _ t253 t247 t248 1 t263 _ ?side1 ?side2 A58.out).mono ?_); (case side1 => repeat (first | exact (Kd.R_reads' HO_251000.out).2.2 | (with_reducible refine Kd.C_alloc ?_ _) | (with_reducible refine Kd.C_drewN ?_ _) | (with_reducible refine Kd.C_drew ?_))); (case side2 => exact (Kd.R_reads' HO_251000.out).2.1); rintro e w64 ⟨rfl, hb⟩; refine ⟨_, rfl, ?_⟩; replace HO_244000 := ak_ (Kd.R_below (by (with_reducible repeat (first | apply Kd.R_alloc | apply Kd.R_drewN | apply Kd.R_drew)); exact HO_244000.out) hb); replace HO_251000 := ak_ (Kd.R_below (by (with_reducible repeat (first | apply Kd.R_alloc | apply Kd.R_drewN | apply Kd.R_drew)); exact HO_251000.out) hb); replace HO_262000 := ak_ (Kd.R_below (by (with_reducible repeat (first | apply Kd.R_alloc | apply Kd.R_drewN | apply Kd.R_drew)); exact HO_262000.out) hb); replace BK243 := ak_ (blk_below (bk_ BK243) hb); replace BK250 := ak_ (blk_below (bk_ BK250) hb); replace BK261 := ak_ (blk_below (bk_ BK261) hb); replace HB := ak_ (below_step hb_ hb); (try clear hb)))
            go_ret
            exact ⟨ew_, hb_⟩
           ·rw [if_neg c60] at H
            have c60b0 : (t263 == t252) = false := beq_eq_false_iff_ne.mpr c60
            have c60b1 : (t263 != t252) = true := bne_iff_ne.mpr c60
            exact absurd (Option.some.inj H) (by rw [hrT.out]; decide)
      ·rw [if_neg c29] at H
       have c29b0 : (t254 == t252) = false := beq_eq_false_iff_ne.mpr c29
       have c29b1 : (t254 != t252) = true := bne_iff_ne.mpr c29
       exact absurd (Option.some.inj H) (by rw [hrT.out]; decide)

/-- THE ONE PURE STATEMENT of laws_FnExactParseSide: yours. -/
def laws_FnExactParseSide.Pure : Prop := ∀ (a0 : ByteArray), a0.size ≤ 140737488351232 → ∃ k, laws_FnExactParseSide.f k a0 = some true
theorem laws_FnExactParseSide.walk (P : laws_FnExactParseSide.Pure) (a0 : ByteArray) (w : World) (hL : Lay w) (w0 : a0.size ≤ 140737488351232) :
  Calls Tryd.prog 6 #[.string a0] w fun e w' => e = .returned (.bool true) ∧ Below w.heap.size w w' := by
 obtain ⟨k, h⟩ := P a0 w0
 refine (laws_FnExactParseSide.calls k a0 true ⟨rfl⟩ w hL h).mono ?_
 rintro e w' ⟨rfl, hd⟩
 exact ⟨rfl, hd⟩

end Go.Proofs.YtblfoelddakelaaDoor.P
