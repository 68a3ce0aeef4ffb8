-- PRINTED by print.py (a twelfth state) out of the translation. Not trusted: Lean checks it.
import Derived.Test.YtfjjlipfjddaiaaU0
import Derived.Test.YtfjjlipfjddaiaaU10
import Derived.Test.YtfjjlipfjddaiaaU21
import Derived.Test.YtfjjlipfjddaiaaU22
import Derived.Test.YtfjjlipfjddaiaaU36
namespace Go.Proofs.Ytfjjlipfjddaiaa.U
open Go.RowKit Go.Proofs.YtfjjlipfjddaiaaW.PrintWords Go.Proofs.YtfjjlipfjddaiaaW.PrintLast Go.Proofs.YtfjjlipfjddaiaaW.PrintMore
attribute [local go_sem] max2_int min2_int max_two min_two max_three min_three max_four min_four   -- for this text's walks alone
set_option linter.unusedVariables false
set_option linter.unusedSimpArgs false

/-! ### spec_Steady: function 49 -/
mutual
def spec_Steady.j0 : Nat → List (S109) → Int → Int → Int → Bool → List (S96) → Int → Int → List (S96) → Int → Int → Int → Int → Option (Int)
  | 0, _, _, _, _, _, _, _, _, _, _, _, _, _ => none
  | k + 1, x1, x2, x3, x4, x37, x472000, x472001, x472002, x472003, x472004, x472005, x472006, x472007 => if x37 = true then (some (-1)) else (spec_Steady.l0 k x1 x2 x3 x4 x4 0 x472000 x472001 x472002 x472003 x472004 x472005 x472006 x472007)
def spec_Steady.l0 : Nat → List (S109) → Int → Int → Int → Int → Int → List (S96) → Int → Int → List (S96) → Int → Int → Int → Int → Option (Int)
  | 0, _, _, _, _, _, _, _, _, _, _, _, _, _, _ => none
  | k + 1, x1, x2, x3, x11, x12, x13, x472000, x472001, x472002, x472003, x472004, x472005, x472006, x472007 => if x13 < (x1.length : Int) then (if 0 ≤ x13 then (if ((rd_T109 x1 x13).f0) > (wrap64 (x2 - x472002)) then (if ((rd_T109 x1 x13).f0) ≤ x2 then (spec_Steady.j2 k x1 x2 x3 x11 x12 x13 (decide (((rd_T109 x1 x13).f1) < x11)) x472000 x472001 x472002 x472003 x472004 x472005 x472006 x472007 ((rd_T109 x1 x13).f0) ((rd_T109 x1 x13).f1)) else (spec_Steady.j2 k x1 x2 x3 x11 x12 x13 false x472000 x472001 x472002 x472003 x472004 x472005 x472006 x472007 ((rd_T109 x1 x13).f0) ((rd_T109 x1 x13).f1))) else (spec_Steady.j2 k x1 x2 x3 x11 x12 x13 false x472000 x472001 x472002 x472003 x472004 x472005 x472006 x472007 ((rd_T109 x1 x13).f0) ((rd_T109 x1 x13).f1))) else (none)) else (if x3 < x11 then (some x11) else (if x3 > x12 then (some x12) else (some x3)))
def spec_Steady.j2 : Nat → List (S109) → Int → Int → Int → Int → Int → Bool → List (S96) → Int → Int → List (S96) → Int → Int → Int → Int → Int → Int → Option (Int)
  | 0, _, _, _, _, _, _, _, _, _, _, _, _, _, _, _, _, _ => none
  | k + 1, x1, x2, x3, x11, x12, x13, x69, x472000, x472001, x472002, x472003, x472004, x472005, x472006, x472007, x479000, x479001 => if x69 = true then (if x479000 > (wrap64 (x2 - x472005)) then (if x479000 ≤ x2 then (if x479001 > x12 then (spec_Steady.l0 k x1 x2 x3 x479001 x479001 (wrap64 (x13 + 1)) x472000 x472001 x472002 x472003 x472004 x472005 x472006 x472007) else (spec_Steady.l0 k x1 x2 x3 x479001 x12 (wrap64 (x13 + 1)) x472000 x472001 x472002 x472003 x472004 x472005 x472006 x472007)) else (spec_Steady.l0 k x1 x2 x3 x479001 x12 (wrap64 (x13 + 1)) x472000 x472001 x472002 x472003 x472004 x472005 x472006 x472007)) else (spec_Steady.l0 k x1 x2 x3 x479001 x12 (wrap64 (x13 + 1)) x472000 x472001 x472002 x472003 x472004 x472005 x472006 x472007)) else (if x479000 > (wrap64 (x2 - x472005)) then (if x479000 ≤ x2 then (if x479001 > x12 then (spec_Steady.l0 k x1 x2 x3 x11 x479001 (wrap64 (x13 + 1)) x472000 x472001 x472002 x472003 x472004 x472005 x472006 x472007) else (spec_Steady.l0 k x1 x2 x3 x11 x12 (wrap64 (x13 + 1)) x472000 x472001 x472002 x472003 x472004 x472005 x472006 x472007)) else (spec_Steady.l0 k x1 x2 x3 x11 x12 (wrap64 (x13 + 1)) x472000 x472001 x472002 x472003 x472004 x472005 x472006 x472007)) else (spec_Steady.l0 k x1 x2 x3 x11 x12 (wrap64 (x13 + 1)) x472000 x472001 x472002 x472003 x472004 x472005 x472006 x472007))
end
def spec_Steady.f (k : Nat) (l0_0 : List (S96)) (a0_1 : Int) (a0_2 : Int) (l0_3 : List (S96)) (a0_4 : Int) (a0_5 : Int) (a0_6 : Int) (a0_7 : Int) (l1 : List (S109)) (a2 : Int) (a3 : Int) (a4 : Int) : Option (Int) := (spec_BehaveOk.f k l0_0 a0_1 a0_2 l0_3 a0_4 a0_5 a0_6 a0_7).bind fun t472 => (if t472 = true then ((spec_NotesOk.f k l1).bind fun t473 => (if t473 = true then ((spec_l02Tick.f a2).bind fun t474 => (if t474 = true then ((spec_l05Count.f a3).bind fun t475 => (if t475 = true then ((spec_l05Count.f a4).bind fun t476 => (spec_Steady.j0 k l1 a2 a3 a4 (!t476) l0_0 a0_1 a0_2 l0_3 a0_4 a0_5 a0_6 a0_7)) else (spec_Steady.j0 k l1 a2 a3 a4 true l0_0 a0_1 a0_2 l0_3 a0_4 a0_5 a0_6 a0_7))) else (spec_Steady.j0 k l1 a2 a3 a4 true l0_0 a0_1 a0_2 l0_3 a0_4 a0_5 a0_6 a0_7))) else (spec_Steady.j0 k l1 a2 a3 a4 true l0_0 a0_1 a0_2 l0_3 a0_4 a0_5 a0_6 a0_7))) else (spec_Steady.j0 k l1 a2 a3 a4 true l0_0 a0_1 a0_2 l0_3 a0_4 a0_5 a0_6 a0_7))
theorem spec_Steady.mono_l : ∀ k, (∀ y0 y1 y2 y3 y4 y5 y6 y7 y8 y9 y10 y11 y12, LeO (spec_Steady.j0 k y0 y1 y2 y3 y4 y5 y6 y7 y8 y9 y10 y11 y12) (spec_Steady.j0 (k + 1) y0 y1 y2 y3 y4 y5 y6 y7 y8 y9 y10 y11 y12)) ∧ (∀ y0 y1 y2 y3 y4 y5 y6 y7 y8 y9 y10 y11 y12 y13, LeO (spec_Steady.l0 k y0 y1 y2 y3 y4 y5 y6 y7 y8 y9 y10 y11 y12 y13) (spec_Steady.l0 (k + 1) y0 y1 y2 y3 y4 y5 y6 y7 y8 y9 y10 y11 y12 y13)) ∧ (∀ y0 y1 y2 y3 y4 y5 y6 y7 y8 y9 y10 y11 y12 y13 y14 y15 y16, LeO (spec_Steady.j2 k y0 y1 y2 y3 y4 y5 y6 y7 y8 y9 y10 y11 y12 y13 y14 y15 y16) (spec_Steady.j2 (k + 1) y0 y1 y2 y3 y4 y5 y6 y7 y8 y9 y10 y11 y12 y13 y14 y15 y16))
  | 0 => ⟨fun _ _ _ _ _ _ _ _ _ _ _ _ _ r h => by simp [spec_Steady.j0] at h, fun _ _ _ _ _ _ _ _ _ _ _ _ _ _ r h => by simp [spec_Steady.l0] at h, fun _ _ _ _ _ _ _ _ _ _ _ _ _ _ _ _ _ r h => by simp [spec_Steady.j2] at h⟩
  | k + 1 => by
    obtain ⟨ih0, ih1, ih2⟩ := spec_Steady.mono_l k
    refine ⟨?_, ?_, ?_⟩
    · intro y0 y1 y2 y3 y4 y5 y6 y7 y8 y9 y10 y11 y12
      unfold spec_Steady.j0
      repeat' first
      | (with_reducible exact ih0 _ _ _ _ _ _ _ _ _ _ _ _ _)
      | (with_reducible exact ih1 _ _ _ _ _ _ _ _ _ _ _ _ _ _)
      | (with_reducible exact ih2 _ _ _ _ _ _ _ _ _ _ _ _ _ _ _ _ _)
      | (with_reducible exact spec_BehaveOk.mono _ _ _ _ _ _ _ _ _)
      | (with_reducible exact spec_NotesOk.mono _ _)
      | (with_reducible exact LeO.refl _)
      | (with_reducible exact LeO.none _)
      | (with_reducible refine LeO.ite ?_ ?_)
      | (with_reducible refine LeO.bind ?_ (fun _ => ?_))
      | exact ih0 _ _ _ _ _ _ _ _ _ _ _ _ _
      | exact ih1 _ _ _ _ _ _ _ _ _ _ _ _ _ _
      | exact ih2 _ _ _ _ _ _ _ _ _ _ _ _ _ _ _ _ _
      | exact spec_BehaveOk.mono _ _ _ _ _ _ _ _ _
      | exact spec_NotesOk.mono _ _
      | exact LeO.none _
      | refine LeO.ite ?_ ?_
      | refine LeO.bind ?_ (fun _ => ?_)
    · intro y0 y1 y2 y3 y4 y5 y6 y7 y8 y9 y10 y11 y12 y13
      unfold spec_Steady.l0
      repeat' first
      | (with_reducible exact ih0 _ _ _ _ _ _ _ _ _ _ _ _ _)
      | (with_reducible exact ih1 _ _ _ _ _ _ _ _ _ _ _ _ _ _)
      | (with_reducible exact ih2 _ _ _ _ _ _ _ _ _ _ _ _ _ _ _ _ _)
      | (with_reducible exact spec_BehaveOk.mono _ _ _ _ _ _ _ _ _)
      | (with_reducible exact spec_NotesOk.mono _ _)
      | (with_reducible exact LeO.refl _)
      | (with_reducible exact LeO.none _)
      | (with_reducible refine LeO.ite ?_ ?_)
      | (with_reducible refine LeO.bind ?_ (fun _ => ?_))
      | exact ih0 _ _ _ _ _ _ _ _ _ _ _ _ _
      | exact ih1 _ _ _ _ _ _ _ _ _ _ _ _ _ _
      | exact ih2 _ _ _ _ _ _ _ _ _ _ _ _ _ _ _ _ _
      | exact spec_BehaveOk.mono _ _ _ _ _ _ _ _ _
      | exact spec_NotesOk.mono _ _
      | exact LeO.none _
      | refine LeO.ite ?_ ?_
      | refine LeO.bind ?_ (fun _ => ?_)
    · intro y0 y1 y2 y3 y4 y5 y6 y7 y8 y9 y10 y11 y12 y13 y14 y15 y16
      unfold spec_Steady.j2
      repeat' first
      | (with_reducible exact ih0 _ _ _ _ _ _ _ _ _ _ _ _ _)
      | (with_reducible exact ih1 _ _ _ _ _ _ _ _ _ _ _ _ _ _)
      | (with_reducible exact ih2 _ _ _ _ _ _ _ _ _ _ _ _ _ _ _ _ _)
      | (with_reducible exact spec_BehaveOk.mono _ _ _ _ _ _ _ _ _)
      | (with_reducible exact spec_NotesOk.mono _ _)
      | (with_reducible exact LeO.refl _)
      | (with_reducible exact LeO.none _)
      | (with_reducible refine LeO.ite ?_ ?_)
      | (with_reducible refine LeO.bind ?_ (fun _ => ?_))
      | exact ih0 _ _ _ _ _ _ _ _ _ _ _ _ _
      | exact ih1 _ _ _ _ _ _ _ _ _ _ _ _ _ _
      | exact ih2 _ _ _ _ _ _ _ _ _ _ _ _ _ _ _ _ _
      | exact spec_BehaveOk.mono _ _ _ _ _ _ _ _ _
      | exact spec_NotesOk.mono _ _
      | exact LeO.none _
      | refine LeO.ite ?_ ?_
      | refine LeO.bind ?_ (fun _ => ?_)
theorem spec_Steady.mono : ∀ a0 a1 a2 a3 a4 a5 a6 a7 a8 a9 a10 a11 k, LeO (spec_Steady.f k a0 a1 a2 a3 a4 a5 a6 a7 a8 a9 a10 a11) (spec_Steady.f (k + 1) a0 a1 a2 a3 a4 a5 a6 a7 a8 a9 a10 a11) := by
  intro a0 a1 a2 a3 a4 a5 a6 a7 a8 a9 a10 a11 k
  obtain ⟨ih0, ih1, ih2⟩ := spec_Steady.mono_l k
  unfold spec_Steady.f
  repeat' first
      | (with_reducible exact ih0 _ _ _ _ _ _ _ _ _ _ _ _ _)
      | (with_reducible exact ih1 _ _ _ _ _ _ _ _ _ _ _ _ _ _)
      | (with_reducible exact ih2 _ _ _ _ _ _ _ _ _ _ _ _ _ _ _ _ _)
      | (with_reducible exact spec_BehaveOk.mono _ _ _ _ _ _ _ _ _)
      | (with_reducible exact spec_NotesOk.mono _ _)
      | (with_reducible exact LeO.refl _)
      | (with_reducible exact LeO.none _)
      | (with_reducible refine LeO.ite ?_ ?_)
      | (with_reducible refine LeO.bind ?_ (fun _ => ?_))
      | exact ih0 _ _ _ _ _ _ _ _ _ _ _ _ _
      | exact ih1 _ _ _ _ _ _ _ _ _ _ _ _ _ _
      | exact ih2 _ _ _ _ _ _ _ _ _ _ _ _ _ _ _ _ _
      | exact spec_BehaveOk.mono _ _ _ _ _ _ _ _ _
      | exact spec_NotesOk.mono _ _
      | exact LeO.none _
      | refine LeO.ite ?_ ?_
      | refine LeO.bind ?_ (fun _ => ?_)
set_option maxHeartbeats 8000000 in
set_option maxRecDepth 100000 in
theorem spec_Steady.calls (k : Nat) (A0_0 : Option Addr) (c0_0 : Nat) (l0_0 : List (S96)) (a0_1 : Int) (a0_2 : Int) (A0_3 : Option Addr) (c0_3 : Nat) (l0_3 : List (S96)) (a0_4 : Int) (a0_5 : Int) (a0_6 : Int) (a0_7 : Int) (A1 : Option Addr) (c1 : Nat) (l1 : List (S109)) (a2 : Int) (a3 : Int) (a4 : Int) (r : Int) (w : World) (hr0_0 : Kd.C k96 w A0_0 l0_0.length l0_0) (hc0_0 : l0_0.length ≤ c0_0) (hr0_3 : Kd.C k96 w A0_3 l0_3.length l0_3) (hc0_3 : l0_3.length ≤ c0_3) (hr1 : Kd.C k109 w A1 l1.length l1) (hc1 : l1.length ≤ c1) (h : spec_Steady.f k l0_0 a0_1 a0_2 l0_3 a0_4 a0_5 a0_6 a0_7 l1 a2 a3 a4 = some r) :
    Calls Try.prog 49 #[.agg #[.slice A0_0 l0_0.length c0_0, .int .i64 a0_1, .int .i64 a0_2, .slice A0_3 l0_3.length c0_3, .int .i64 a0_4, .int .i64 a0_5, .int .i64 a0_6, .int .i64 a0_7], .slice A1 l1.length c1, .int .i64 a2, .int .i64 a3, .int .i64 a4] w fun e w' => e = .returned (.int .i64 r) ∧ Below w.heap.size w w' := by
  have hu35 := Try.underlying35
  have hu109 := Try.underlying109
  have HR0_0 := Aside0.mk hr0_0
  have HC0_0 := Aside0.mk hc0_0
  clear hr0_0 hc0_0
  have HR0_3 := Aside0.mk hr0_3
  have HC0_3 := Aside0.mk hc0_3
  clear hr0_3 hc0_3
  have HR1 := Aside0.mk hr1
  have HC1 := Aside0.mk hc1
  clear hr1 hc1
  have HB := Aside0.mk (Below.refl w.heap.size w)
  have H : ((spec_BehaveOk.f k l0_0 a0_1 a0_2 l0_3 a0_4 a0_5 a0_6 a0_7).bind fun t472 => (if t472 = true then ((spec_NotesOk.f k l1).bind fun t473 => (if t473 = true then ((spec_l02Tick.f a2).bind fun t474 => (if t474 = true then ((spec_l05Count.f a3).bind fun t475 => (if t475 = true then ((spec_l05Count.f a4).bind fun t476 => (spec_Steady.j0 k l1 a2 a3 a4 (!t476) l0_0 a0_1 a0_2 l0_3 a0_4 a0_5 a0_6 a0_7)) else (spec_Steady.j0 k l1 a2 a3 a4 true l0_0 a0_1 a0_2 l0_3 a0_4 a0_5 a0_6 a0_7))) else (spec_Steady.j0 k l1 a2 a3 a4 true l0_0 a0_1 a0_2 l0_3 a0_4 a0_5 a0_6 a0_7))) else (spec_Steady.j0 k l1 a2 a3 a4 true l0_0 a0_1 a0_2 l0_3 a0_4 a0_5 a0_6 a0_7))) else (spec_Steady.j0 k l1 a2 a3 a4 true l0_0 a0_1 a0_2 l0_3 a0_4 a0_5 a0_6 a0_7))) = some r := h
  clear h
  have HC6 := Aside0.mk H
  clear H
  go_enter Try.func49, Try.ntmps49
  go_upto_region 1 with (first | ((with_reducible refine gate_dst (N := 5) rfl ?_); refine box_event ?hg (N := 5) ?hd (cs := #[.slice A0_0 l0_0.length c0_0, .int .i64 a0_1, .int .i64 a0_2, .slice A0_3 l0_3.length c0_3, .int .i64 a0_4, .int .i64 a0_5, .int .i64 a0_6, .int .i64 a0_7]) (t := 35) ?hr ?_; (case hd => rfl); (case hg => rfl); (case hr => first | (go_simp; done) | (go_simp; rfl)); intro gb471 hg w7 hbox hb; have n0_ := Aside0.mk (below_step (by repeat (first | (with_reducible first | exact HB.out | apply below_alloc | apply pw_below_drewN | apply below_drew1) | exact HB.out)) hb); have n1_ := Aside0.mk (hbox); have n2_ := Aside0.mk ((by rw [hg]; exact (below_size (by repeat (first | (with_reducible first | exact HB.out | apply below_alloc | apply pw_below_drewN | apply below_drew1) | exact HB.out))) : w.heap.size ≤ gb471)); have n3_ := Aside0.mk ((by rw [hg]; exact (below_size (by repeat (first | (with_reducible first | exact HB.out | apply below_alloc | apply pw_below_drewN | apply below_drew1) | exact HB.out))) : w.heap.size ≤ gb471)); clear HB; have HB := n0_; have BK471 := n1_; have GW471 := n2_; have GE471 := n3_; clear n0_ n1_ n2_ n3_; clear hb hbox hg))
  (try simp only [Act.put, List.setIfInBounds_toArray, List.set_cons_zero, List.set_cons_succ])
  go_cut [37] (fun v37 wc => ∃ (kq : Nat) (x37_5 : Bool), v37 = .bool x37_5 ∧ Aside0 (spec_Steady.j0 kq l1 a2 a3 a4 x37_5 l0_0 a0_1 a0_2 l0_3 a0_4 a0_5 a0_6 a0_7 = some r) ∧ Aside0 (kq ≤ k) ∧ Aside0 (wc.heap[gb471]? = some (.cells #[(.slice A0_0 l0_0.length c0_0), .int .i64 a0_1, .int .i64 a0_2, (.slice A0_3 l0_3.length c0_3), .int .i64 a0_4, .int .i64 a0_5, .int .i64 a0_6, .int .i64 a0_7] 35 (0, 0))) ∧ Aside0 (Below w.heap.size w wc))
  case first =>
    have H := HC6.out
    clear HC6
    replace H := Option.bind_eq_some_iff.mp H
    obtain ⟨t472, A80, H⟩ := H
    replace H : (if t472 = true then ((spec_NotesOk.f k l1).bind fun t473 => (if t473 = true then ((spec_l02Tick.f a2).bind fun t474 => (if t474 = true then ((spec_l05Count.f a3).bind fun t475 => (if t475 = true then ((spec_l05Count.f a4).bind fun t476 => (spec_Steady.j0 k l1 a2 a3 a4 (!t476) l0_0 a0_1 a0_2 l0_3 a0_4 a0_5 a0_6 a0_7)) else (spec_Steady.j0 k l1 a2 a3 a4 true l0_0 a0_1 a0_2 l0_3 a0_4 a0_5 a0_6 a0_7))) else (spec_Steady.j0 k l1 a2 a3 a4 true l0_0 a0_1 a0_2 l0_3 a0_4 a0_5 a0_6 a0_7))) else (spec_Steady.j0 k l1 a2 a3 a4 true l0_0 a0_1 a0_2 l0_3 a0_4 a0_5 a0_6 a0_7))) else (spec_Steady.j0 k l1 a2 a3 a4 true l0_0 a0_1 a0_2 l0_3 a0_4 a0_5 a0_6 a0_7)) = some r := H
    have A8 := Aside0.mk A80
    clear A80
    by_cases c9 : t472 = true
    · subst c9
      have H1 : ((spec_NotesOk.f k l1).bind fun t473 => (if t473 = true then ((spec_l02Tick.f a2).bind fun t474 => (if t474 = true then ((spec_l05Count.f a3).bind fun t475 => (if t475 = true then ((spec_l05Count.f a4).bind fun t476 => (spec_Steady.j0 k l1 a2 a3 a4 (!t476) l0_0 a0_1 a0_2 l0_3 a0_4 a0_5 a0_6 a0_7)) else (spec_Steady.j0 k l1 a2 a3 a4 true l0_0 a0_1 a0_2 l0_3 a0_4 a0_5 a0_6 a0_7))) else (spec_Steady.j0 k l1 a2 a3 a4 true l0_0 a0_1 a0_2 l0_3 a0_4 a0_5 a0_6 a0_7))) else (spec_Steady.j0 k l1 a2 a3 a4 true l0_0 a0_1 a0_2 l0_3 a0_4 a0_5 a0_6 a0_7))) = some r := by rw [if_pos rfl] at H; exact H
      clear H
      have H := H1
      clear H1
      replace H := Option.bind_eq_some_iff.mp H
      obtain ⟨t473, A100, H⟩ := H
      replace H : (if t473 = true then ((spec_l02Tick.f a2).bind fun t474 => (if t474 = true then ((spec_l05Count.f a3).bind fun t475 => (if t475 = true then ((spec_l05Count.f a4).bind fun t476 => (spec_Steady.j0 k l1 a2 a3 a4 (!t476) l0_0 a0_1 a0_2 l0_3 a0_4 a0_5 a0_6 a0_7)) else (spec_Steady.j0 k l1 a2 a3 a4 true l0_0 a0_1 a0_2 l0_3 a0_4 a0_5 a0_6 a0_7))) else (spec_Steady.j0 k l1 a2 a3 a4 true l0_0 a0_1 a0_2 l0_3 a0_4 a0_5 a0_6 a0_7))) else (spec_Steady.j0 k l1 a2 a3 a4 true l0_0 a0_1 a0_2 l0_3 a0_4 a0_5 a0_6 a0_7)) = some r := H
      have A10 := Aside0.mk A100
      clear A100
      by_cases c11 : t473 = true
      · subst c11
        have H1 : ((spec_l02Tick.f a2).bind fun t474 => (if t474 = true then ((spec_l05Count.f a3).bind fun t475 => (if t475 = true then ((spec_l05Count.f a4).bind fun t476 => (spec_Steady.j0 k l1 a2 a3 a4 (!t476) l0_0 a0_1 a0_2 l0_3 a0_4 a0_5 a0_6 a0_7)) else (spec_Steady.j0 k l1 a2 a3 a4 true l0_0 a0_1 a0_2 l0_3 a0_4 a0_5 a0_6 a0_7))) else (spec_Steady.j0 k l1 a2 a3 a4 true l0_0 a0_1 a0_2 l0_3 a0_4 a0_5 a0_6 a0_7))) = some r := by rw [if_pos rfl] at H; exact H
        clear H
        have H := H1
        clear H1
        replace H := Option.bind_eq_some_iff.mp H
        obtain ⟨t474, A120, H⟩ := H
        replace H : (if t474 = true then ((spec_l05Count.f a3).bind fun t475 => (if t475 = true then ((spec_l05Count.f a4).bind fun t476 => (spec_Steady.j0 k l1 a2 a3 a4 (!t476) l0_0 a0_1 a0_2 l0_3 a0_4 a0_5 a0_6 a0_7)) else (spec_Steady.j0 k l1 a2 a3 a4 true l0_0 a0_1 a0_2 l0_3 a0_4 a0_5 a0_6 a0_7))) else (spec_Steady.j0 k l1 a2 a3 a4 true l0_0 a0_1 a0_2 l0_3 a0_4 a0_5 a0_6 a0_7)) = some r := H
        have A12 := Aside0.mk A120
        clear A120
        by_cases c13 : t474 = true
        · subst c13
          have H1 : ((spec_l05Count.f a3).bind fun t475 => (if t475 = true then ((spec_l05Count.f a4).bind fun t476 => (spec_Steady.j0 k l1 a2 a3 a4 (!t476) l0_0 a0_1 a0_2 l0_3 a0_4 a0_5 a0_6 a0_7)) else (spec_Steady.j0 k l1 a2 a3 a4 true l0_0 a0_1 a0_2 l0_3 a0_4 a0_5 a0_6 a0_7))) = some r := by rw [if_pos rfl] at H; exact H
          clear H
          have H := H1
          clear H1
          replace H := Option.bind_eq_some_iff.mp H
          obtain ⟨t475, A140, H⟩ := H
          replace H : (if t475 = true then ((spec_l05Count.f a4).bind fun t476 => (spec_Steady.j0 k l1 a2 a3 a4 (!t476) l0_0 a0_1 a0_2 l0_3 a0_4 a0_5 a0_6 a0_7)) else (spec_Steady.j0 k l1 a2 a3 a4 true l0_0 a0_1 a0_2 l0_3 a0_4 a0_5 a0_6 a0_7)) = some r := H
          have A14 := Aside0.mk A140
          clear A140
          by_cases c15 : t475 = true
          · subst c15
            have H1 : ((spec_l05Count.f a4).bind fun t476 => (spec_Steady.j0 k l1 a2 a3 a4 (!t476) l0_0 a0_1 a0_2 l0_3 a0_4 a0_5 a0_6 a0_7)) = some r := by rw [if_pos rfl] at H; exact H
            clear H
            have H := H1
            clear H1
            replace H := Option.bind_eq_some_iff.mp H
            obtain ⟨t476, A160, H⟩ := H
            replace H : (spec_Steady.j0 k l1 a2 a3 a4 (!t476) l0_0 a0_1 a0_2 l0_3 a0_4 a0_5 a0_6 a0_7) = some r := H
            have A16 := Aside0.mk A160
            clear A160
            have H' := Aside0.mk H
            clear H
            have hcz17_0 : w7.cell? ⟨gb471, 0, none⟩ = some (.slice A0_0 l0_0.length c0_0) := (blk_cell BK471.out 0).trans rfl
            have hcz17_1 : w7.cell? ⟨gb471, 1, none⟩ = some (.int .i64 a0_1) := (blk_cell BK471.out 1).trans rfl
            have hcz17_2 : w7.cell? ⟨gb471, 2, none⟩ = some (.int .i64 a0_2) := (blk_cell BK471.out 2).trans rfl
            have hcz17_3 : w7.cell? ⟨gb471, 3, none⟩ = some (.slice A0_3 l0_3.length c0_3) := (blk_cell BK471.out 3).trans rfl
            have hcz17_4 : w7.cell? ⟨gb471, 4, none⟩ = some (.int .i64 a0_4) := (blk_cell BK471.out 4).trans rfl
            have hcz17_5 : w7.cell? ⟨gb471, 5, none⟩ = some (.int .i64 a0_5) := (blk_cell BK471.out 5).trans rfl
            have hcz17_6 : w7.cell? ⟨gb471, 6, none⟩ = some (.int .i64 a0_6) := (blk_cell BK471.out 6).trans rfl
            have hcz17_7 : w7.cell? ⟨gb471, 7, none⟩ = some (.int .i64 a0_7) := (blk_cell BK471.out 7).trans rfl
            have hfz17_0 := blk_frozen BK471.out 0
            have hfz17_1 := blk_frozen BK471.out 1
            have hfz17_2 := blk_frozen BK471.out 2
            have hfz17_3 := blk_frozen BK471.out 3
            have hfz17_4 := blk_frozen BK471.out 4
            have hfz17_5 := blk_frozen BK471.out 5
            have hfz17_6 := blk_frozen BK471.out 6
            have hfz17_7 := blk_frozen BK471.out 7
            go_wp2_with (first | ((with_reducible refine gate_callee (f := 41) rfl ?_); refine goesL_ (some 16) rfl rfl Try.func41 (by kernel_rfl) rfl #[.agg #[.slice A0_0 l0_0.length c0_0, .int .i64 a0_1, .int .i64 a0_2, .slice A0_3 l0_3.length c0_3, .int .i64 a0_4, .int .i64 a0_5, .int .i64 a0_6, .int .i64 a0_7]] rfl (by (try simp only [List.map_toArray, List.map_cons, List.map_nil]); first | done | rfl | (simp only [List.length_drop, List.length_take]; rfl)) ?_; (with_reducible refine (spec_BehaveOk.calls k _ _ l0_0 a0_1 a0_2 _ _ l0_3 a0_4 a0_5 a0_6 a0_7 true _ ?side1 ?side2 ?side3 ?side4 A8.out).mono ?_); (case side1 => repeat (first | exact (Kd.C_below HR0_0.out HB.out) | (with_reducible refine Kd.C_alloc ?_ _) | (with_reducible refine Kd.C_drewN ?_ _) | (with_reducible refine Kd.C_drew ?_))); (case side2 => exact HC0_0.out); (case side3 => repeat (first | exact (Kd.C_below HR0_3.out HB.out) | (with_reducible refine Kd.C_alloc ?_ _) | (with_reducible refine Kd.C_drewN ?_ _) | (with_reducible refine Kd.C_drew ?_))); (case side4 => exact HC0_3.out); rintro e w18 ⟨rfl, hb⟩; refine ⟨_, rfl, ?_⟩; have n0_ := Aside0.mk (blk_below (g := gb471) (o := .cells #[.slice A0_0 l0_0.length c0_0, .int .i64 a0_1, .int .i64 a0_2, .slice A0_3 l0_3.length c0_3, .int .i64 a0_4, .int .i64 a0_5, .int .i64 a0_6, .int .i64 a0_7] 35 (0, 0)) (by (with_reducible repeat (first | refine blk_drewN ?_ _ | refine blk_drew ?_ | refine blk_alloc ?_ _)); exact BK471.out) hb); have n1_ := Aside0.mk (below_step (by repeat (first | (with_reducible first | exact HB.out | apply below_alloc | apply pw_below_drewN | apply below_drew1 | refine below_set ?_ GE471.out) | exact HB.out)) hb); clear BK471; clear HB; have BK471 := n0_; have HB := n1_; clear n0_ n1_; (try clear hb); (try clear hb2); (try clear hk); (try clear hi)) | (go_at_call 84; (with_reducible refine (spec_NotesOk.calls k _ _ l1 true _ ?side1 ?side2 A10.out).mono ?_); (case side1 => repeat (first | exact (Kd.C_below HR1.out HB.out) | (with_reducible refine Kd.C_alloc ?_ _) | (with_reducible refine Kd.C_drewN ?_ _) | (with_reducible refine Kd.C_drew ?_))); (case side2 => exact HC1.out); rintro e w19 ⟨rfl, hb⟩; have n0_ := Aside0.mk (blk_below (g := gb471) (o := .cells #[.slice A0_0 l0_0.length c0_0, .int .i64 a0_1, .int .i64 a0_2, .slice A0_3 l0_3.length c0_3, .int .i64 a0_4, .int .i64 a0_5, .int .i64 a0_6, .int .i64 a0_7] 35 (0, 0)) (by (with_reducible repeat (first | refine blk_drewN ?_ _ | refine blk_drew ?_ | refine blk_alloc ?_ _)); exact BK471.out) hb); have n1_ := Aside0.mk (below_step (by repeat (first | (with_reducible first | exact HB.out | apply below_alloc | apply pw_below_drewN | apply below_drew1 | refine below_set ?_ GE471.out) | exact HB.out)) hb); clear BK471; clear HB; have BK471 := n0_; have HB := n1_; clear n0_ n1_; (try clear hb); (try clear hb2); (try clear hk); (try clear hi)) | (go_at_call 79; (with_reducible refine (spec_l02Tick.calls a2 true _ A12.out).mono ?_); rintro e w' ⟨rfl, ⟨nd, rfl⟩⟩) | (go_at_call 89; (with_reducible refine (spec_l05Count.calls a3 true _ A14.out).mono ?_); rintro e w' ⟨rfl, ⟨nd, rfl⟩⟩) | (go_at_call 89; (with_reducible refine (spec_l05Count.calls a4 t476 _ A16.out).mono ?_); rintro e w' ⟨rfl, ⟨nd, rfl⟩⟩))
            go_meet
            case rel => exact ⟨_, (!t476), (by first | rfl | (simp; done) | (simp [*]; done)), H', ⟨by first | omega | exact Nat.le_refl _⟩, ⟨by (with_reducible repeat (first | refine blk_drewN ?_ _ | refine blk_drew ?_ | refine blk_alloc ?_ _)); exact BK471.out⟩, ⟨by repeat (first | (with_reducible first | exact HB.out | apply below_alloc | apply pw_below_drewN | apply below_drew1 | refine below_set ?_ GE471.out) | exact HB.out)⟩⟩
          · replace c15 := Bool.eq_false_iff.mpr c15
            subst c15
            have H1 : (spec_Steady.j0 k l1 a2 a3 a4 true l0_0 a0_1 a0_2 l0_3 a0_4 a0_5 a0_6 a0_7) = some r := by rw [if_neg (show ¬ (false = true) by decide)] at H; exact H
            clear H
            have H := H1
            clear H1
            have H' := Aside0.mk H
            clear H
            have hcz20_0 : w7.cell? ⟨gb471, 0, none⟩ = some (.slice A0_0 l0_0.length c0_0) := (blk_cell BK471.out 0).trans rfl
            have hcz20_1 : w7.cell? ⟨gb471, 1, none⟩ = some (.int .i64 a0_1) := (blk_cell BK471.out 1).trans rfl
            have hcz20_2 : w7.cell? ⟨gb471, 2, none⟩ = some (.int .i64 a0_2) := (blk_cell BK471.out 2).trans rfl
            have hcz20_3 : w7.cell? ⟨gb471, 3, none⟩ = some (.slice A0_3 l0_3.length c0_3) := (blk_cell BK471.out 3).trans rfl
            have hcz20_4 : w7.cell? ⟨gb471, 4, none⟩ = some (.int .i64 a0_4) := (blk_cell BK471.out 4).trans rfl
            have hcz20_5 : w7.cell? ⟨gb471, 5, none⟩ = some (.int .i64 a0_5) := (blk_cell BK471.out 5).trans rfl
            have hcz20_6 : w7.cell? ⟨gb471, 6, none⟩ = some (.int .i64 a0_6) := (blk_cell BK471.out 6).trans rfl
            have hcz20_7 : w7.cell? ⟨gb471, 7, none⟩ = some (.int .i64 a0_7) := (blk_cell BK471.out 7).trans rfl
            have hfz20_0 := blk_frozen BK471.out 0
            have hfz20_1 := blk_frozen BK471.out 1
            have hfz20_2 := blk_frozen BK471.out 2
            have hfz20_3 := blk_frozen BK471.out 3
            have hfz20_4 := blk_frozen BK471.out 4
            have hfz20_5 := blk_frozen BK471.out 5
            have hfz20_6 := blk_frozen BK471.out 6
            have hfz20_7 := blk_frozen BK471.out 7
            go_wp2_with (first | ((with_reducible refine gate_callee (f := 41) rfl ?_); refine goesL_ (some 16) rfl rfl Try.func41 (by kernel_rfl) rfl #[.agg #[.slice A0_0 l0_0.length c0_0, .int .i64 a0_1, .int .i64 a0_2, .slice A0_3 l0_3.length c0_3, .int .i64 a0_4, .int .i64 a0_5, .int .i64 a0_6, .int .i64 a0_7]] rfl (by (try simp only [List.map_toArray, List.map_cons, List.map_nil]); first | done | rfl | (simp only [List.length_drop, List.length_take]; rfl)) ?_; (with_reducible refine (spec_BehaveOk.calls k _ _ l0_0 a0_1 a0_2 _ _ l0_3 a0_4 a0_5 a0_6 a0_7 true _ ?side1 ?side2 ?side3 ?side4 A8.out).mono ?_); (case side1 => repeat (first | exact (Kd.C_below HR0_0.out HB.out) | (with_reducible refine Kd.C_alloc ?_ _) | (with_reducible refine Kd.C_drewN ?_ _) | (with_reducible refine Kd.C_drew ?_))); (case side2 => exact HC0_0.out); (case side3 => repeat (first | exact (Kd.C_below HR0_3.out HB.out) | (with_reducible refine Kd.C_alloc ?_ _) | (with_reducible refine Kd.C_drewN ?_ _) | (with_reducible refine Kd.C_drew ?_))); (case side4 => exact HC0_3.out); rintro e w21 ⟨rfl, hb⟩; refine ⟨_, rfl, ?_⟩; have n0_ := Aside0.mk (blk_below (g := gb471) (o := .cells #[.slice A0_0 l0_0.length c0_0, .int .i64 a0_1, .int .i64 a0_2, .slice A0_3 l0_3.length c0_3, .int .i64 a0_4, .int .i64 a0_5, .int .i64 a0_6, .int .i64 a0_7] 35 (0, 0)) (by (with_reducible repeat (first | refine blk_drewN ?_ _ | refine blk_drew ?_ | refine blk_alloc ?_ _)); exact BK471.out) hb); have n1_ := Aside0.mk (below_step (by repeat (first | (with_reducible first | exact HB.out | apply below_alloc | apply pw_below_drewN | apply below_drew1 | refine below_set ?_ GE471.out) | exact HB.out)) hb); clear BK471; clear HB; have BK471 := n0_; have HB := n1_; clear n0_ n1_; (try clear hb); (try clear hb2); (try clear hk); (try clear hi)) | (go_at_call 84; (with_reducible refine (spec_NotesOk.calls k _ _ l1 true _ ?side1 ?side2 A10.out).mono ?_); (case side1 => repeat (first | exact (Kd.C_below HR1.out HB.out) | (with_reducible refine Kd.C_alloc ?_ _) | (with_reducible refine Kd.C_drewN ?_ _) | (with_reducible refine Kd.C_drew ?_))); (case side2 => exact HC1.out); rintro e w22 ⟨rfl, hb⟩; have n0_ := Aside0.mk (blk_below (g := gb471) (o := .cells #[.slice A0_0 l0_0.length c0_0, .int .i64 a0_1, .int .i64 a0_2, .slice A0_3 l0_3.length c0_3, .int .i64 a0_4, .int .i64 a0_5, .int .i64 a0_6, .int .i64 a0_7] 35 (0, 0)) (by (with_reducible repeat (first | refine blk_drewN ?_ _ | refine blk_drew ?_ | refine blk_alloc ?_ _)); exact BK471.out) hb); have n1_ := Aside0.mk (below_step (by repeat (first | (with_reducible first | exact HB.out | apply below_alloc | apply pw_below_drewN | apply below_drew1 | refine below_set ?_ GE471.out) | exact HB.out)) hb); clear BK471; clear HB; have BK471 := n0_; have HB := n1_; clear n0_ n1_; (try clear hb); (try clear hb2); (try clear hk); (try clear hi)) | (go_at_call 79; (with_reducible refine (spec_l02Tick.calls a2 true _ A12.out).mono ?_); rintro e w' ⟨rfl, ⟨nd, rfl⟩⟩) | (go_at_call 89; (with_reducible refine (spec_l05Count.calls a3 false _ A14.out).mono ?_); rintro e w' ⟨rfl, ⟨nd, rfl⟩⟩))
            go_meet
            case rel => exact ⟨_, (true), (by first | rfl | (simp; done) | (simp [*]; done)), H', ⟨by first | omega | exact Nat.le_refl _⟩, ⟨by (with_reducible repeat (first | refine blk_drewN ?_ _ | refine blk_drew ?_ | refine blk_alloc ?_ _)); exact BK471.out⟩, ⟨by repeat (first | (with_reducible first | exact HB.out | apply below_alloc | apply pw_below_drewN | apply below_drew1 | refine below_set ?_ GE471.out) | exact HB.out)⟩⟩
        · replace c13 := Bool.eq_false_iff.mpr c13
          subst c13
          have H1 : (spec_Steady.j0 k l1 a2 a3 a4 true l0_0 a0_1 a0_2 l0_3 a0_4 a0_5 a0_6 a0_7) = some r := by rw [if_neg (show ¬ (false = true) by decide)] at H; exact H
          clear H
          have H := H1
          clear H1
          have H' := Aside0.mk H
          clear H
          have hcz23_0 : w7.cell? ⟨gb471, 0, none⟩ = some (.slice A0_0 l0_0.length c0_0) := (blk_cell BK471.out 0).trans rfl
          have hcz23_1 : w7.cell? ⟨gb471, 1, none⟩ = some (.int .i64 a0_1) := (blk_cell BK471.out 1).trans rfl
          have hcz23_2 : w7.cell? ⟨gb471, 2, none⟩ = some (.int .i64 a0_2) := (blk_cell BK471.out 2).trans rfl
          have hcz23_3 : w7.cell? ⟨gb471, 3, none⟩ = some (.slice A0_3 l0_3.length c0_3) := (blk_cell BK471.out 3).trans rfl
          have hcz23_4 : w7.cell? ⟨gb471, 4, none⟩ = some (.int .i64 a0_4) := (blk_cell BK471.out 4).trans rfl
          have hcz23_5 : w7.cell? ⟨gb471, 5, none⟩ = some (.int .i64 a0_5) := (blk_cell BK471.out 5).trans rfl
          have hcz23_6 : w7.cell? ⟨gb471, 6, none⟩ = some (.int .i64 a0_6) := (blk_cell BK471.out 6).trans rfl
          have hcz23_7 : w7.cell? ⟨gb471, 7, none⟩ = some (.int .i64 a0_7) := (blk_cell BK471.out 7).trans rfl
          have hfz23_0 := blk_frozen BK471.out 0
          have hfz23_1 := blk_frozen BK471.out 1
          have hfz23_2 := blk_frozen BK471.out 2
          have hfz23_3 := blk_frozen BK471.out 3
          have hfz23_4 := blk_frozen BK471.out 4
          have hfz23_5 := blk_frozen BK471.out 5
          have hfz23_6 := blk_frozen BK471.out 6
          have hfz23_7 := blk_frozen BK471.out 7
          go_wp2_with (first | ((with_reducible refine gate_callee (f := 41) rfl ?_); refine goesL_ (some 16) rfl rfl Try.func41 (by kernel_rfl) rfl #[.agg #[.slice A0_0 l0_0.length c0_0, .int .i64 a0_1, .int .i64 a0_2, .slice A0_3 l0_3.length c0_3, .int .i64 a0_4, .int .i64 a0_5, .int .i64 a0_6, .int .i64 a0_7]] rfl (by (try simp only [List.map_toArray, List.map_cons, List.map_nil]); first | done | rfl | (simp only [List.length_drop, List.length_take]; rfl)) ?_; (with_reducible refine (spec_BehaveOk.calls k _ _ l0_0 a0_1 a0_2 _ _ l0_3 a0_4 a0_5 a0_6 a0_7 true _ ?side1 ?side2 ?side3 ?side4 A8.out).mono ?_); (case side1 => repeat (first | exact (Kd.C_below HR0_0.out HB.out) | (with_reducible refine Kd.C_alloc ?_ _) | (with_reducible refine Kd.C_drewN ?_ _) | (with_reducible refine Kd.C_drew ?_))); (case side2 => exact HC0_0.out); (case side3 => repeat (first | exact (Kd.C_below HR0_3.out HB.out) | (with_reducible refine Kd.C_alloc ?_ _) | (with_reducible refine Kd.C_drewN ?_ _) | (with_reducible refine Kd.C_drew ?_))); (case side4 => exact HC0_3.out); rintro e w24 ⟨rfl, hb⟩; refine ⟨_, rfl, ?_⟩; have n0_ := Aside0.mk (blk_below (g := gb471) (o := .cells #[.slice A0_0 l0_0.length c0_0, .int .i64 a0_1, .int .i64 a0_2, .slice A0_3 l0_3.length c0_3, .int .i64 a0_4, .int .i64 a0_5, .int .i64 a0_6, .int .i64 a0_7] 35 (0, 0)) (by (with_reducible repeat (first | refine blk_drewN ?_ _ | refine blk_drew ?_ | refine blk_alloc ?_ _)); exact BK471.out) hb); have n1_ := Aside0.mk (below_step (by repeat (first | (with_reducible first | exact HB.out | apply below_alloc | apply pw_below_drewN | apply below_drew1 | refine below_set ?_ GE471.out) | exact HB.out)) hb); clear BK471; clear HB; have BK471 := n0_; have HB := n1_; clear n0_ n1_; (try clear hb); (try clear hb2); (try clear hk); (try clear hi)) | (go_at_call 84; (with_reducible refine (spec_NotesOk.calls k _ _ l1 true _ ?side1 ?side2 A10.out).mono ?_); (case side1 => repeat (first | exact (Kd.C_below HR1.out HB.out) | (with_reducible refine Kd.C_alloc ?_ _) | (with_reducible refine Kd.C_drewN ?_ _) | (with_reducible refine Kd.C_drew ?_))); (case side2 => exact HC1.out); rintro e w25 ⟨rfl, hb⟩; have n0_ := Aside0.mk (blk_below (g := gb471) (o := .cells #[.slice A0_0 l0_0.length c0_0, .int .i64 a0_1, .int .i64 a0_2, .slice A0_3 l0_3.length c0_3, .int .i64 a0_4, .int .i64 a0_5, .int .i64 a0_6, .int .i64 a0_7] 35 (0, 0)) (by (with_reducible repeat (first | refine blk_drewN ?_ _ | refine blk_drew ?_ | refine blk_alloc ?_ _)); exact BK471.out) hb); have n1_ := Aside0.mk (below_step (by repeat (first | (with_reducible first | exact HB.out | apply below_alloc | apply pw_below_drewN | apply below_drew1 | refine below_set ?_ GE471.out) | exact HB.out)) hb); clear BK471; clear HB; have BK471 := n0_; have HB := n1_; clear n0_ n1_; (try clear hb); (try clear hb2); (try clear hk); (try clear hi)) | (go_at_call 79; (with_reducible refine (spec_l02Tick.calls a2 false _ A12.out).mono ?_); rintro e w' ⟨rfl, ⟨nd, rfl⟩⟩))
          go_meet
          case rel => exact ⟨_, (true), (by first | rfl | (simp; done) | (simp [*]; done)), H', ⟨by first | omega | exact Nat.le_refl _⟩, ⟨by (with_reducible repeat (first | refine blk_drewN ?_ _ | refine blk_drew ?_ | refine blk_alloc ?_ _)); exact BK471.out⟩, ⟨by repeat (first | (with_reducible first | exact HB.out | apply below_alloc | apply pw_below_drewN | apply below_drew1 | refine below_set ?_ GE471.out) | exact HB.out)⟩⟩
      · replace c11 := Bool.eq_false_iff.mpr c11
        subst c11
        have H1 : (spec_Steady.j0 k l1 a2 a3 a4 true l0_0 a0_1 a0_2 l0_3 a0_4 a0_5 a0_6 a0_7) = some r := by rw [if_neg (show ¬ (false = true) by decide)] at H; exact H
        clear H
        have H := H1
        clear H1
        have H' := Aside0.mk H
        clear H
        have hcz26_0 : w7.cell? ⟨gb471, 0, none⟩ = some (.slice A0_0 l0_0.length c0_0) := (blk_cell BK471.out 0).trans rfl
        have hcz26_1 : w7.cell? ⟨gb471, 1, none⟩ = some (.int .i64 a0_1) := (blk_cell BK471.out 1).trans rfl
        have hcz26_2 : w7.cell? ⟨gb471, 2, none⟩ = some (.int .i64 a0_2) := (blk_cell BK471.out 2).trans rfl
        have hcz26_3 : w7.cell? ⟨gb471, 3, none⟩ = some (.slice A0_3 l0_3.length c0_3) := (blk_cell BK471.out 3).trans rfl
        have hcz26_4 : w7.cell? ⟨gb471, 4, none⟩ = some (.int .i64 a0_4) := (blk_cell BK471.out 4).trans rfl
        have hcz26_5 : w7.cell? ⟨gb471, 5, none⟩ = some (.int .i64 a0_5) := (blk_cell BK471.out 5).trans rfl
        have hcz26_6 : w7.cell? ⟨gb471, 6, none⟩ = some (.int .i64 a0_6) := (blk_cell BK471.out 6).trans rfl
        have hcz26_7 : w7.cell? ⟨gb471, 7, none⟩ = some (.int .i64 a0_7) := (blk_cell BK471.out 7).trans rfl
        have hfz26_0 := blk_frozen BK471.out 0
        have hfz26_1 := blk_frozen BK471.out 1
        have hfz26_2 := blk_frozen BK471.out 2
        have hfz26_3 := blk_frozen BK471.out 3
        have hfz26_4 := blk_frozen BK471.out 4
        have hfz26_5 := blk_frozen BK471.out 5
        have hfz26_6 := blk_frozen BK471.out 6
        have hfz26_7 := blk_frozen BK471.out 7
        go_wp2_with (first | ((with_reducible refine gate_callee (f := 41) rfl ?_); refine goesL_ (some 16) rfl rfl Try.func41 (by kernel_rfl) rfl #[.agg #[.slice A0_0 l0_0.length c0_0, .int .i64 a0_1, .int .i64 a0_2, .slice A0_3 l0_3.length c0_3, .int .i64 a0_4, .int .i64 a0_5, .int .i64 a0_6, .int .i64 a0_7]] rfl (by (try simp only [List.map_toArray, List.map_cons, List.map_nil]); first | done | rfl | (simp only [List.length_drop, List.length_take]; rfl)) ?_; (with_reducible refine (spec_BehaveOk.calls k _ _ l0_0 a0_1 a0_2 _ _ l0_3 a0_4 a0_5 a0_6 a0_7 true _ ?side1 ?side2 ?side3 ?side4 A8.out).mono ?_); (case side1 => repeat (first | exact (Kd.C_below HR0_0.out HB.out) | (with_reducible refine Kd.C_alloc ?_ _) | (with_reducible refine Kd.C_drewN ?_ _) | (with_reducible refine Kd.C_drew ?_))); (case side2 => exact HC0_0.out); (case side3 => repeat (first | exact (Kd.C_below HR0_3.out HB.out) | (with_reducible refine Kd.C_alloc ?_ _) | (with_reducible refine Kd.C_drewN ?_ _) | (with_reducible refine Kd.C_drew ?_))); (case side4 => exact HC0_3.out); rintro e w27 ⟨rfl, hb⟩; refine ⟨_, rfl, ?_⟩; have n0_ := Aside0.mk (blk_below (g := gb471) (o := .cells #[.slice A0_0 l0_0.length c0_0, .int .i64 a0_1, .int .i64 a0_2, .slice A0_3 l0_3.length c0_3, .int .i64 a0_4, .int .i64 a0_5, .int .i64 a0_6, .int .i64 a0_7] 35 (0, 0)) (by (with_reducible repeat (first | refine blk_drewN ?_ _ | refine blk_drew ?_ | refine blk_alloc ?_ _)); exact BK471.out) hb); have n1_ := Aside0.mk (below_step (by repeat (first | (with_reducible first | exact HB.out | apply below_alloc | apply pw_below_drewN | apply below_drew1 | refine below_set ?_ GE471.out) | exact HB.out)) hb); clear BK471; clear HB; have BK471 := n0_; have HB := n1_; clear n0_ n1_; (try clear hb); (try clear hb2); (try clear hk); (try clear hi)) | (go_at_call 84; (with_reducible refine (spec_NotesOk.calls k _ _ l1 false _ ?side1 ?side2 A10.out).mono ?_); (case side1 => repeat (first | exact (Kd.C_below HR1.out HB.out) | (with_reducible refine Kd.C_alloc ?_ _) | (with_reducible refine Kd.C_drewN ?_ _) | (with_reducible refine Kd.C_drew ?_))); (case side2 => exact HC1.out); rintro e w28 ⟨rfl, hb⟩; have n0_ := Aside0.mk (blk_below (g := gb471) (o := .cells #[.slice A0_0 l0_0.length c0_0, .int .i64 a0_1, .int .i64 a0_2, .slice A0_3 l0_3.length c0_3, .int .i64 a0_4, .int .i64 a0_5, .int .i64 a0_6, .int .i64 a0_7] 35 (0, 0)) (by (with_reducible repeat (first | refine blk_drewN ?_ _ | refine blk_drew ?_ | refine blk_alloc ?_ _)); exact BK471.out) hb); have n1_ := Aside0.mk (below_step (by repeat (first | (with_reducible first | exact HB.out | apply below_alloc | apply pw_below_drewN | apply below_drew1 | refine below_set ?_ GE471.out) | exact HB.out)) hb); clear BK471; clear HB; have BK471 := n0_; have HB := n1_; clear n0_ n1_; (try clear hb); (try clear hb2); (try clear hk); (try clear hi)))
        go_meet
        case rel => exact ⟨_, (true), (by first | rfl | (simp; done) | (simp [*]; done)), H', ⟨by first | omega | exact Nat.le_refl _⟩, ⟨by (with_reducible repeat (first | refine blk_drewN ?_ _ | refine blk_drew ?_ | refine blk_alloc ?_ _)); exact BK471.out⟩, ⟨by repeat (first | (with_reducible first | exact HB.out | apply below_alloc | apply pw_below_drewN | apply below_drew1 | refine below_set ?_ GE471.out) | exact HB.out)⟩⟩
    · replace c9 := Bool.eq_false_iff.mpr c9
      subst c9
      have H1 : (spec_Steady.j0 k l1 a2 a3 a4 true l0_0 a0_1 a0_2 l0_3 a0_4 a0_5 a0_6 a0_7) = some r := by rw [if_neg (show ¬ (false = true) by decide)] at H; exact H
      clear H
      have H := H1
      clear H1
      have H' := Aside0.mk H
      clear H
      have hcz29_0 : w7.cell? ⟨gb471, 0, none⟩ = some (.slice A0_0 l0_0.length c0_0) := (blk_cell BK471.out 0).trans rfl
      have hcz29_1 : w7.cell? ⟨gb471, 1, none⟩ = some (.int .i64 a0_1) := (blk_cell BK471.out 1).trans rfl
      have hcz29_2 : w7.cell? ⟨gb471, 2, none⟩ = some (.int .i64 a0_2) := (blk_cell BK471.out 2).trans rfl
      have hcz29_3 : w7.cell? ⟨gb471, 3, none⟩ = some (.slice A0_3 l0_3.length c0_3) := (blk_cell BK471.out 3).trans rfl
      have hcz29_4 : w7.cell? ⟨gb471, 4, none⟩ = some (.int .i64 a0_4) := (blk_cell BK471.out 4).trans rfl
      have hcz29_5 : w7.cell? ⟨gb471, 5, none⟩ = some (.int .i64 a0_5) := (blk_cell BK471.out 5).trans rfl
      have hcz29_6 : w7.cell? ⟨gb471, 6, none⟩ = some (.int .i64 a0_6) := (blk_cell BK471.out 6).trans rfl
      have hcz29_7 : w7.cell? ⟨gb471, 7, none⟩ = some (.int .i64 a0_7) := (blk_cell BK471.out 7).trans rfl
      have hfz29_0 := blk_frozen BK471.out 0
      have hfz29_1 := blk_frozen BK471.out 1
      have hfz29_2 := blk_frozen BK471.out 2
      have hfz29_3 := blk_frozen BK471.out 3
      have hfz29_4 := blk_frozen BK471.out 4
      have hfz29_5 := blk_frozen BK471.out 5
      have hfz29_6 := blk_frozen BK471.out 6
      have hfz29_7 := blk_frozen BK471.out 7
      go_wp2_with (first | ((with_reducible refine gate_callee (f := 41) rfl ?_); refine goesL_ (some 16) rfl rfl Try.func41 (by kernel_rfl) rfl #[.agg #[.slice A0_0 l0_0.length c0_0, .int .i64 a0_1, .int .i64 a0_2, .slice A0_3 l0_3.length c0_3, .int .i64 a0_4, .int .i64 a0_5, .int .i64 a0_6, .int .i64 a0_7]] rfl (by (try simp only [List.map_toArray, List.map_cons, List.map_nil]); first | done | rfl | (simp only [List.length_drop, List.length_take]; rfl)) ?_; (with_reducible refine (spec_BehaveOk.calls k _ _ l0_0 a0_1 a0_2 _ _ l0_3 a0_4 a0_5 a0_6 a0_7 false _ ?side1 ?side2 ?side3 ?side4 A8.out).mono ?_); (case side1 => repeat (first | exact (Kd.C_below HR0_0.out HB.out) | (with_reducible refine Kd.C_alloc ?_ _) | (with_reducible refine Kd.C_drewN ?_ _) | (with_reducible refine Kd.C_drew ?_))); (case side2 => exact HC0_0.out); (case side3 => repeat (first | exact (Kd.C_below HR0_3.out HB.out) | (with_reducible refine Kd.C_alloc ?_ _) | (with_reducible refine Kd.C_drewN ?_ _) | (with_reducible refine Kd.C_drew ?_))); (case side4 => exact HC0_3.out); rintro e w30 ⟨rfl, hb⟩; refine ⟨_, rfl, ?_⟩; have n0_ := Aside0.mk (blk_below (g := gb471) (o := .cells #[.slice A0_0 l0_0.length c0_0, .int .i64 a0_1, .int .i64 a0_2, .slice A0_3 l0_3.length c0_3, .int .i64 a0_4, .int .i64 a0_5, .int .i64 a0_6, .int .i64 a0_7] 35 (0, 0)) (by (with_reducible repeat (first | refine blk_drewN ?_ _ | refine blk_drew ?_ | refine blk_alloc ?_ _)); exact BK471.out) hb); have n1_ := Aside0.mk (below_step (by repeat (first | (with_reducible first | exact HB.out | apply below_alloc | apply pw_below_drewN | apply below_drew1 | refine below_set ?_ GE471.out) | exact HB.out)) hb); clear BK471; clear HB; have BK471 := n0_; have HB := n1_; clear n0_ n1_; (try clear hb); (try clear hb2); (try clear hk); (try clear hi)))
      go_meet
      case rel => exact ⟨_, (true), (by first | rfl | (simp; done) | (simp [*]; done)), H', ⟨by first | omega | exact Nat.le_refl _⟩, ⟨by (with_reducible repeat (first | refine blk_drewN ?_ _ | refine blk_drew ?_ | refine blk_alloc ?_ _)); exact BK471.out⟩, ⟨by repeat (first | (with_reducible first | exact HB.out | apply below_alloc | apply pw_below_drewN | apply below_drew1 | refine below_set ?_ GE471.out) | exact HB.out)⟩⟩
  case rest =>
    clear HC6
    try clear c1
    try clear p2
    try clear c4
    try clear c9
    try clear c11
    try clear c13
    try clear c15
    try clear hcz17_0
    try clear hcz17_1
    try clear hcz17_2
    try clear hcz17_3
    try clear hcz17_4
    try clear hcz17_5
    try clear hcz17_6
    try clear hcz17_7
    try clear hcz20_0
    try clear hcz20_1
    try clear hcz20_2
    try clear hcz20_3
    try clear hcz20_4
    try clear hcz20_5
    try clear hcz20_6
    try clear hcz20_7
    try clear hcz23_0
    try clear hcz23_1
    try clear hcz23_2
    try clear hcz23_3
    try clear hcz23_4
    try clear hcz23_5
    try clear hcz23_6
    try clear hcz23_7
    try clear hcz26_0
    try clear hcz26_1
    try clear hcz26_2
    try clear hcz26_3
    try clear hcz26_4
    try clear hcz26_5
    try clear hcz26_6
    try clear hcz26_7
    try clear hcz29_0
    try clear hcz29_1
    try clear hcz29_2
    try clear hcz29_3
    try clear hcz29_4
    try clear hcz29_5
    try clear hcz29_6
    try clear hcz29_7
    try clear hfz17_0
    try clear hfz17_1
    try clear hfz17_2
    try clear hfz17_3
    try clear hfz17_4
    try clear hfz17_5
    try clear hfz17_6
    try clear hfz17_7
    try clear hfz20_0
    try clear hfz20_1
    try clear hfz20_2
    try clear hfz20_3
    try clear hfz20_4
    try clear hfz20_5
    try clear hfz20_6
    try clear hfz20_7
    try clear hfz23_0
    try clear hfz23_1
    try clear hfz23_2
    try clear hfz23_3
    try clear hfz23_4
    try clear hfz23_5
    try clear hfz23_6
    try clear hfz23_7
    try clear hfz26_0
    try clear hfz26_1
    try clear hfz26_2
    try clear hfz26_3
    try clear hfz26_4
    try clear hfz26_5
    try clear hfz26_6
    try clear hfz26_7
    try clear hfz29_0
    try clear hfz29_1
    try clear hfz29_2
    try clear hfz29_3
    try clear hfz29_4
    try clear hfz29_5
    try clear hfz29_6
    try clear hfz29_7
    obtain ⟨kq, x37_5, rfl, HA, HJ5, BK471, HB⟩ := hcut
    cases kq with
    | zero => exact absurd HA.out (by simp [spec_Steady.j0])
    | succ kj5 =>
      have H := HA.out
      clear HA
      simp only [spec_Steady.j0] at H
      by_cases c31 : x37_5 = true
      · subst c31
        have H1 : (some (-1)) = some r := by rw [if_pos rfl] at H; exact H
        clear H
        have H := H1
        clear H1
        obtain rfl := Option.some.inj H
        go_wp2
        go_ret
        exact ⟨by first | rfl | (simp [errW_none, errW_some] <;> rfl) | (simp [*, errW_none, errW_some] <;> rfl), by repeat (first | (with_reducible first | exact HB.out | apply below_alloc | apply pw_below_drewN | apply below_drew1 | refine below_set ?_ GE471.out) | exact HB.out)⟩
      · replace c31 := Bool.eq_false_iff.mpr c31
        subst c31
        have H1 : (spec_Steady.l0 kj5 l1 a2 a3 a4 a4 0 l0_0 a0_1 a0_2 l0_3 a0_4 a0_5 a0_6 a0_7) = some r := by rw [if_neg (show ¬ (false = true) by decide)] at H; exact H
        clear H
        have H := H1
        clear H1
        have H' := Aside0.mk H
        clear H
        go_wp2
        go_loopg [11, 12, 13] kj5 (fun kq v11 v12 v13 w' => ∃ (x11_2 : Int) (x12_2 : Int) (x13_2 : Int), v11 = .int .i64 x11_2 ∧ v12 = .int .i64 x12_2 ∧ v13 = .int .i64 x13_2 ∧ Aside0 (spec_Steady.l0 kq l1 a2 a3 x11_2 x12_2 x13_2 l0_0 a0_1 a0_2 l0_3 a0_4 a0_5 a0_6 a0_7 = some r) ∧ Aside0 (kq ≤ kj5) ∧ Aside0 (w'.heap[gb471]? = some (.cells #[(.slice A0_0 l0_0.length c0_0), .int .i64 a0_1, .int .i64 a0_2, (.slice A0_3 l0_3.length c0_3), .int .i64 a0_4, .int .i64 a0_5, .int .i64 a0_6, .int .i64 a0_7] 35 (0, 0))) ∧ Aside0 (Below w.heap.size w w'))
        case atStart => exact ⟨(a4), (a4), (0), (by first | rfl | (simp; done) | (simp [*]; done)), (by first | rfl | (simp; done) | (simp [*]; done)), (by first | rfl | (simp; done) | (simp [*]; done)), H', ⟨Nat.le_refl _⟩, ⟨by (with_reducible repeat (first | refine blk_drewN ?_ _ | refine blk_drew ?_ | refine blk_alloc ?_ _)); exact BK471.out⟩, ⟨by repeat (first | (with_reducible first | exact HB.out | apply below_alloc | apply pw_below_drewN | apply below_drew1 | refine below_set ?_ GE471.out) | exact HB.out)⟩⟩
        case round =>
          clear H'
          try clear c1
          try clear p2
          try clear c3
          try clear c4
          try clear c9
          try clear c11
          try clear c13
          try clear c15
          try clear c31
          try clear hcz17_0
          try clear hcz17_1
          try clear hcz17_2
          try clear hcz17_3
          try clear hcz17_4
          try clear hcz17_5
          try clear hcz17_6
          try clear hcz17_7
          try clear hcz20_0
          try clear hcz20_1
          try clear hcz20_2
          try clear hcz20_3
          try clear hcz20_4
          try clear hcz20_5
          try clear hcz20_6
          try clear hcz20_7
          try clear hcz23_0
          try clear hcz23_1
          try clear hcz23_2
          try clear hcz23_3
          try clear hcz23_4
          try clear hcz23_5
          try clear hcz23_6
          try clear hcz23_7
          try clear hcz26_0
          try clear hcz26_1
          try clear hcz26_2
          try clear hcz26_3
          try clear hcz26_4
          try clear hcz26_5
          try clear hcz26_6
          try clear hcz26_7
          try clear hcz29_0
          try clear hcz29_1
          try clear hcz29_2
          try clear hcz29_3
          try clear hcz29_4
          try clear hcz29_5
          try clear hcz29_6
          try clear hcz29_7
          try clear hfz17_0
          try clear hfz17_1
          try clear hfz17_2
          try clear hfz17_3
          try clear hfz17_4
          try clear hfz17_5
          try clear hfz17_6
          try clear hfz17_7
          try clear hfz20_0
          try clear hfz20_1
          try clear hfz20_2
          try clear hfz20_3
          try clear hfz20_4
          try clear hfz20_5
          try clear hfz20_6
          try clear hfz20_7
          try clear hfz23_0
          try clear hfz23_1
          try clear hfz23_2
          try clear hfz23_3
          try clear hfz23_4
          try clear hfz23_5
          try clear hfz23_6
          try clear hfz23_7
          try clear hfz26_0
          try clear hfz26_1
          try clear hfz26_2
          try clear hfz26_3
          try clear hfz26_4
          try clear hfz26_5
          try clear hfz26_6
          try clear hfz26_7
          try clear hfz29_0
          try clear hfz29_1
          try clear hfz29_2
          try clear hfz29_3
          try clear hfz29_4
          try clear hfz29_5
          try clear hfz29_6
          try clear hfz29_7
          try clear p2
          obtain ⟨x11_2, x12_2, x13_2, rfl, rfl, rfl, HA, HK2, BK471, HB⟩ := hrel
          cases gk with
          | zero => exact absurd HA.out (by simp [spec_Steady.l0])
          | succ k2 =>
            have H := HA.out
            clear HA
            simp only [spec_Steady.l0] at H
            by_cases c32 : x13_2 < (l1.length : Int)
            · rw [if_pos c32] at H
              have c32b0 : decide (x13_2 < (l1.length : Int)) = true := decide_eq_true c32
              clear c32
              by_cases c33 : 0 ≤ x13_2
              · rw [if_pos c33] at H
                have c33b0 : decide (0 ≤ x13_2) = true := decide_eq_true c33
                clear c33
                have HC34 := Aside0.mk H
                clear H
                have p477 : 0 ≤ (x13_2 : Int) := of_decide_eq_true (by first | (with_reducible assumption) | assumption)
                have q477 : x13_2 < (l1.length : Int) := of_decide_eq_true (by first | (with_reducible assumption) | assumption)
                obtain ⟨ad477, e477, hx477_0, hx477_1⟩ := at_T109 HR1.out x13_2 p477 q477
                cases e477
                replace hx477_0 := (HB.out.cell (World.block_lt_of_cell? w _ hx477_0)).trans hx477_0
                replace hx477_1 := (HB.out.cell (World.block_lt_of_cell? w _ hx477_1)).trans hx477_1
                replace p477 := eq_true p477
                replace q477 := eq_true q477
                go_upto_region 9 with (first | ((with_reducible refine gate_dst (N := 14) rfl ?_); refine box_event ?hg (N := 14) ?hd (cs := #[.int .i64 0, .int .i64 0]) (t := 109) ?hr ?_; (case hd => rfl); (case hg => rfl); (case hr => first | (go_simp; done) | (go_simp; rfl)); intro gb478 hg w35 hbox hb; have n0_ := Aside0.mk (blk_below (g := gb471) (o := .cells #[.slice A0_0 l0_0.length c0_0, .int .i64 a0_1, .int .i64 a0_2, .slice A0_3 l0_3.length c0_3, .int .i64 a0_4, .int .i64 a0_5, .int .i64 a0_6, .int .i64 a0_7] 35 (0, 0)) (by (with_reducible repeat (first | refine blk_drewN ?_ _ | refine blk_drew ?_ | refine blk_alloc ?_ _)); exact BK471.out) hb); have n1_ := Aside0.mk (below_step (by repeat (first | (with_reducible first | exact HB.out | apply below_alloc | apply pw_below_drewN | apply below_drew1 | refine below_set ?_ GE471.out) | exact HB.out)) hb); have n2_ := Aside0.mk (hbox); have n3_ := Aside0.mk ((by rw [hg]; exact (below_size (by repeat (first | (with_reducible first | exact HB.out | apply below_alloc | apply pw_below_drewN | apply below_drew1 | refine below_set ?_ GE471.out) | exact HB.out))) : w.heap.size ≤ gb478)); have n4_ := Aside0.mk ((by rw [hg]; exact (below_size (by repeat (first | (with_reducible first | exact HB.out | apply below_alloc | apply pw_below_drewN | apply below_drew1 | refine below_set ?_ GE471.out) | exact HB.out))) : w.heap.size ≤ gb478)); have n5_ := Aside0.mk ((by rw [hg]; exact Nat.ne_of_lt (blk_lt (g := gb471) (o := .cells #[.slice A0_0 l0_0.length c0_0, .int .i64 a0_1, .int .i64 a0_2, .slice A0_3 l0_3.length c0_3, .int .i64 a0_4, .int .i64 a0_5, .int .i64 a0_6, .int .i64 a0_7] 35 (0, 0)) (by (with_reducible repeat (first | refine blk_drewN ?_ _ | refine blk_drew ?_ | refine blk_alloc ?_ _)); exact BK471.out)) : gb471 ≠ gb478)); have n6_ := Aside0.mk ((by rw [hg]; exact Nat.ne_of_gt (blk_lt (g := gb471) (o := .cells #[.slice A0_0 l0_0.length c0_0, .int .i64 a0_1, .int .i64 a0_2, .slice A0_3 l0_3.length c0_3, .int .i64 a0_4, .int .i64 a0_5, .int .i64 a0_6, .int .i64 a0_7] 35 (0, 0)) (by (with_reducible repeat (first | refine blk_drewN ?_ _ | refine blk_drew ?_ | refine blk_alloc ?_ _)); exact BK471.out)) : gb478 ≠ gb471)); clear BK471; clear HB; have BK471 := n0_; have HB := n1_; have BK478 := n2_; have GW478 := n3_; have GE478 := n4_; have NB471_478 := n5_; have NB478_471 := n6_; clear n0_ n1_ n2_ n3_ n4_ n5_ n6_; clear hb hbox hg; have hnb36 := NB478_471.out; have hnc36 := NB471_478.out; have hcz37_0 : w35.cell? ⟨gb478, 0, none⟩ = some (.int .i64 0) := (blk_cell BK478.out 0).trans rfl; have hcz37_1 : w35.cell? ⟨gb478, 1, none⟩ = some (.int .i64 0) := (blk_cell BK478.out 1).trans rfl; have hfz37_0 := blk_frozen BK478.out 0; have hfz37_1 := blk_frozen BK478.out 1))
                (try simp only [Act.put, List.setIfInBounds_toArray, List.set_cons_zero, List.set_cons_succ])
                go_cut [69] (fun v69 wc => ∃ (kq : Nat) (x69_33 : Bool), v69 = .bool x69_33 ∧ Aside0 (spec_Steady.j2 kq l1 a2 a3 x11_2 x12_2 x13_2 x69_33 l0_0 a0_1 a0_2 l0_3 a0_4 a0_5 a0_6 a0_7 ((rd_T109 l1 x13_2).f0) ((rd_T109 l1 x13_2).f1) = some r) ∧ Aside0 (kq ≤ k2) ∧ Aside0 (wc.heap[gb471]? = some (.cells #[(.slice A0_0 l0_0.length c0_0), .int .i64 a0_1, .int .i64 a0_2, (.slice A0_3 l0_3.length c0_3), .int .i64 a0_4, .int .i64 a0_5, .int .i64 a0_6, .int .i64 a0_7] 35 (0, 0))) ∧ Aside0 (wc.heap[gb478]? = some (.cells #[.int .i64 ((rd_T109 l1 x13_2).f0), .int .i64 ((rd_T109 l1 x13_2).f1)] 109 (0, 0))) ∧ Aside0 (Below w.heap.size w wc))
                case first =>
                  have H := HC34.out
                  clear HC34
                  by_cases c38 : ((rd_T109 l1 x13_2).f0) > (wrap64 (a2 - a0_2))
                  · rw [if_pos c38] at H
                    have c38b0 : decide ((wrap64 (a2 - a0_2)) < ((rd_T109 l1 x13_2).f0)) = true := decide_eq_true c38
                    clear c38
                    (first | rw [c38b0] | (simp only [i64_w, i32_w]; rw [c38b0]) | skip)
                    by_cases c39 : ((rd_T109 l1 x13_2).f0) ≤ a2
                    · rw [if_pos c39] at H
                      have c39b0 : decide (((rd_T109 l1 x13_2).f0) ≤ a2) = true := decide_eq_true c39
                      clear c39
                      have H' := Aside0.mk H
                      clear H
                      have hnb40 := NB478_471.out
                      have hnc40 := NB471_478.out
                      have hcz41_0 : w35.cell? ⟨gb478, 0, none⟩ = some (.int .i64 0) := (blk_cell BK478.out 0).trans rfl
                      have hcz41_1 : w35.cell? ⟨gb478, 1, none⟩ = some (.int .i64 0) := (blk_cell BK478.out 1).trans rfl
                      have hfz41_0 := blk_frozen BK478.out 0
                      have hfz41_1 := blk_frozen BK478.out 1
                      have hcz42_0 : w35.cell? ⟨gb471, 0, none⟩ = some (.slice A0_0 l0_0.length c0_0) := (blk_cell BK471.out 0).trans rfl
                      have hcz42_1 : w35.cell? ⟨gb471, 1, none⟩ = some (.int .i64 a0_1) := (blk_cell BK471.out 1).trans rfl
                      have hcz42_2 : w35.cell? ⟨gb471, 2, none⟩ = some (.int .i64 a0_2) := (blk_cell BK471.out 2).trans rfl
                      have hcz42_3 : w35.cell? ⟨gb471, 3, none⟩ = some (.slice A0_3 l0_3.length c0_3) := (blk_cell BK471.out 3).trans rfl
                      have hcz42_4 : w35.cell? ⟨gb471, 4, none⟩ = some (.int .i64 a0_4) := (blk_cell BK471.out 4).trans rfl
                      have hcz42_5 : w35.cell? ⟨gb471, 5, none⟩ = some (.int .i64 a0_5) := (blk_cell BK471.out 5).trans rfl
                      have hcz42_6 : w35.cell? ⟨gb471, 6, none⟩ = some (.int .i64 a0_6) := (blk_cell BK471.out 6).trans rfl
                      have hcz42_7 : w35.cell? ⟨gb471, 7, none⟩ = some (.int .i64 a0_7) := (blk_cell BK471.out 7).trans rfl
                      have hfz42_0 := blk_frozen BK471.out 0
                      have hfz42_1 := blk_frozen BK471.out 1
                      have hfz42_2 := blk_frozen BK471.out 2
                      have hfz42_3 := blk_frozen BK471.out 3
                      have hfz42_4 := blk_frozen BK471.out 4
                      have hfz42_5 := blk_frozen BK471.out 5
                      have hfz42_6 := blk_frozen BK471.out 6
                      have hfz42_7 := blk_frozen BK471.out 7
                      go_wp2
                      go_meet
                      case rel => exact ⟨_, (decide (((rd_T109 l1 x13_2).f1) < x11_2)), (by first | rfl | (simp; done) | (simp [*]; done)), H', ⟨by have := HJ5.out; have := HK2.out; first | omega | exact Nat.le_refl _⟩, ⟨by (with_reducible repeat (first | refine blk_drewN ?_ _ | refine blk_drew ?_ | refine blk_alloc ?_ _)); refine blk_far ?_ NB471_478.out _; (with_reducible repeat (first | refine blk_drewN ?_ _ | refine blk_drew ?_ | refine blk_alloc ?_ _)); refine blk_far ?_ NB471_478.out _; (with_reducible repeat (first | refine blk_drewN ?_ _ | refine blk_drew ?_ | refine blk_alloc ?_ _)); exact BK471.out⟩, ⟨by (with_reducible repeat (first | refine blk_drewN ?_ _ | refine blk_drew ?_ | refine blk_alloc ?_ _)); refine blk_put (cs := #[.int .i64 ((rd_T109 l1 x13_2).f0), .int .i64 0]) ?_ 1 _ rfl; (with_reducible repeat (first | refine blk_drewN ?_ _ | refine blk_drew ?_ | refine blk_alloc ?_ _)); refine blk_put (cs := #[.int .i64 0, .int .i64 0]) ?_ 0 _ rfl; (with_reducible repeat (first | refine blk_drewN ?_ _ | refine blk_drew ?_ | refine blk_alloc ?_ _)); exact BK478.out⟩, ⟨by repeat (first | (with_reducible first | exact HB.out | apply below_alloc | apply pw_below_drewN | apply below_drew1 | refine below_set ?_ GE471.out | refine below_set ?_ GE478.out) | exact HB.out)⟩⟩
                    · rw [if_neg c39] at H
                      have c39b0 : decide (((rd_T109 l1 x13_2).f0) ≤ a2) = false := decide_eq_false c39
                      clear c39
                      have H' := Aside0.mk H
                      clear H
                      have hnb43 := NB478_471.out
                      have hnc43 := NB471_478.out
                      have hcz44_0 : w35.cell? ⟨gb478, 0, none⟩ = some (.int .i64 0) := (blk_cell BK478.out 0).trans rfl
                      have hcz44_1 : w35.cell? ⟨gb478, 1, none⟩ = some (.int .i64 0) := (blk_cell BK478.out 1).trans rfl
                      have hfz44_0 := blk_frozen BK478.out 0
                      have hfz44_1 := blk_frozen BK478.out 1
                      have hcz45_0 : w35.cell? ⟨gb471, 0, none⟩ = some (.slice A0_0 l0_0.length c0_0) := (blk_cell BK471.out 0).trans rfl
                      have hcz45_1 : w35.cell? ⟨gb471, 1, none⟩ = some (.int .i64 a0_1) := (blk_cell BK471.out 1).trans rfl
                      have hcz45_2 : w35.cell? ⟨gb471, 2, none⟩ = some (.int .i64 a0_2) := (blk_cell BK471.out 2).trans rfl
                      have hcz45_3 : w35.cell? ⟨gb471, 3, none⟩ = some (.slice A0_3 l0_3.length c0_3) := (blk_cell BK471.out 3).trans rfl
                      have hcz45_4 : w35.cell? ⟨gb471, 4, none⟩ = some (.int .i64 a0_4) := (blk_cell BK471.out 4).trans rfl
                      have hcz45_5 : w35.cell? ⟨gb471, 5, none⟩ = some (.int .i64 a0_5) := (blk_cell BK471.out 5).trans rfl
                      have hcz45_6 : w35.cell? ⟨gb471, 6, none⟩ = some (.int .i64 a0_6) := (blk_cell BK471.out 6).trans rfl
                      have hcz45_7 : w35.cell? ⟨gb471, 7, none⟩ = some (.int .i64 a0_7) := (blk_cell BK471.out 7).trans rfl
                      have hfz45_0 := blk_frozen BK471.out 0
                      have hfz45_1 := blk_frozen BK471.out 1
                      have hfz45_2 := blk_frozen BK471.out 2
                      have hfz45_3 := blk_frozen BK471.out 3
                      have hfz45_4 := blk_frozen BK471.out 4
                      have hfz45_5 := blk_frozen BK471.out 5
                      have hfz45_6 := blk_frozen BK471.out 6
                      have hfz45_7 := blk_frozen BK471.out 7
                      go_wp2
                      go_meet
                      case rel => exact ⟨_, (false), (by first | rfl | (simp; done) | (simp [*]; done)), H', ⟨by have := HJ5.out; have := HK2.out; first | omega | exact Nat.le_refl _⟩, ⟨by (with_reducible repeat (first | refine blk_drewN ?_ _ | refine blk_drew ?_ | refine blk_alloc ?_ _)); refine blk_far ?_ NB471_478.out _; (with_reducible repeat (first | refine blk_drewN ?_ _ | refine blk_drew ?_ | refine blk_alloc ?_ _)); refine blk_far ?_ NB471_478.out _; (with_reducible repeat (first | refine blk_drewN ?_ _ | refine blk_drew ?_ | refine blk_alloc ?_ _)); exact BK471.out⟩, ⟨by (with_reducible repeat (first | refine blk_drewN ?_ _ | refine blk_drew ?_ | refine blk_alloc ?_ _)); refine blk_put (cs := #[.int .i64 ((rd_T109 l1 x13_2).f0), .int .i64 0]) ?_ 1 _ rfl; (with_reducible repeat (first | refine blk_drewN ?_ _ | refine blk_drew ?_ | refine blk_alloc ?_ _)); refine blk_put (cs := #[.int .i64 0, .int .i64 0]) ?_ 0 _ rfl; (with_reducible repeat (first | refine blk_drewN ?_ _ | refine blk_drew ?_ | refine blk_alloc ?_ _)); exact BK478.out⟩, ⟨by repeat (first | (with_reducible first | exact HB.out | apply below_alloc | apply pw_below_drewN | apply below_drew1 | refine below_set ?_ GE471.out | refine below_set ?_ GE478.out) | exact HB.out)⟩⟩
                  · rw [if_neg c38] at H
                    have c38b0 : decide ((wrap64 (a2 - a0_2)) < ((rd_T109 l1 x13_2).f0)) = false := decide_eq_false c38
                    clear c38
                    (first | rw [c38b0] | (simp only [i64_w, i32_w]; rw [c38b0]) | skip)
                    have H' := Aside0.mk H
                    clear H
                    have hnb46 := NB478_471.out
                    have hnc46 := NB471_478.out
                    have hcz47_0 : w35.cell? ⟨gb478, 0, none⟩ = some (.int .i64 0) := (blk_cell BK478.out 0).trans rfl
                    have hcz47_1 : w35.cell? ⟨gb478, 1, none⟩ = some (.int .i64 0) := (blk_cell BK478.out 1).trans rfl
                    have hfz47_0 := blk_frozen BK478.out 0
                    have hfz47_1 := blk_frozen BK478.out 1
                    have hcz48_0 : w35.cell? ⟨gb471, 0, none⟩ = some (.slice A0_0 l0_0.length c0_0) := (blk_cell BK471.out 0).trans rfl
                    have hcz48_1 : w35.cell? ⟨gb471, 1, none⟩ = some (.int .i64 a0_1) := (blk_cell BK471.out 1).trans rfl
                    have hcz48_2 : w35.cell? ⟨gb471, 2, none⟩ = some (.int .i64 a0_2) := (blk_cell BK471.out 2).trans rfl
                    have hcz48_3 : w35.cell? ⟨gb471, 3, none⟩ = some (.slice A0_3 l0_3.length c0_3) := (blk_cell BK471.out 3).trans rfl
                    have hcz48_4 : w35.cell? ⟨gb471, 4, none⟩ = some (.int .i64 a0_4) := (blk_cell BK471.out 4).trans rfl
                    have hcz48_5 : w35.cell? ⟨gb471, 5, none⟩ = some (.int .i64 a0_5) := (blk_cell BK471.out 5).trans rfl
                    have hcz48_6 : w35.cell? ⟨gb471, 6, none⟩ = some (.int .i64 a0_6) := (blk_cell BK471.out 6).trans rfl
                    have hcz48_7 : w35.cell? ⟨gb471, 7, none⟩ = some (.int .i64 a0_7) := (blk_cell BK471.out 7).trans rfl
                    have hfz48_0 := blk_frozen BK471.out 0
                    have hfz48_1 := blk_frozen BK471.out 1
                    have hfz48_2 := blk_frozen BK471.out 2
                    have hfz48_3 := blk_frozen BK471.out 3
                    have hfz48_4 := blk_frozen BK471.out 4
                    have hfz48_5 := blk_frozen BK471.out 5
                    have hfz48_6 := blk_frozen BK471.out 6
                    have hfz48_7 := blk_frozen BK471.out 7
                    go_wp2
                    go_meet
                    case rel => exact ⟨_, (false), (by first | rfl | (simp; done) | (simp [*]; done)), H', ⟨by have := HJ5.out; have := HK2.out; first | omega | exact Nat.le_refl _⟩, ⟨by (with_reducible repeat (first | refine blk_drewN ?_ _ | refine blk_drew ?_ | refine blk_alloc ?_ _)); refine blk_far ?_ NB471_478.out _; (with_reducible repeat (first | refine blk_drewN ?_ _ | refine blk_drew ?_ | refine blk_alloc ?_ _)); refine blk_far ?_ NB471_478.out _; (with_reducible repeat (first | refine blk_drewN ?_ _ | refine blk_drew ?_ | refine blk_alloc ?_ _)); exact BK471.out⟩, ⟨by (with_reducible repeat (first | refine blk_drewN ?_ _ | refine blk_drew ?_ | refine blk_alloc ?_ _)); refine blk_put (cs := #[.int .i64 ((rd_T109 l1 x13_2).f0), .int .i64 0]) ?_ 1 _ rfl; (with_reducible repeat (first | refine blk_drewN ?_ _ | refine blk_drew ?_ | refine blk_alloc ?_ _)); refine blk_put (cs := #[.int .i64 0, .int .i64 0]) ?_ 0 _ rfl; (with_reducible repeat (first | refine blk_drewN ?_ _ | refine blk_drew ?_ | refine blk_alloc ?_ _)); exact BK478.out⟩, ⟨by repeat (first | (with_reducible first | exact HB.out | apply below_alloc | apply pw_below_drewN | apply below_drew1 | refine below_set ?_ GE471.out | refine below_set ?_ GE478.out) | exact HB.out)⟩⟩
                case rest =>
                  clear HC34
                  try clear c1
                  try clear p2
                  try clear c3
                  try clear c4
                  try clear p4
                  try clear q4
                  try clear hx4
                  try clear p6
                  try clear c9
                  try clear c11
                  try clear c13
                  try clear c15
                  try clear c31
                  try clear c32
                  try clear c32b0
                  try clear c33
                  try clear c33b0
                  try clear c36
                  try clear c38
                  try clear c38b0
                  try clear c39
                  try clear c39b0
                  try clear c40
                  try clear c41
                  try clear c43
                  try clear c46
                  try clear p47
                  try clear q47
                  try clear hx47
                  try clear hcz17_0
                  try clear hcz17_1
                  try clear hcz17_2
                  try clear hcz17_3
                  try clear hcz17_4
                  try clear hcz17_5
                  try clear hcz17_6
                  try clear hcz17_7
                  try clear hcz20_0
                  try clear hcz20_1
                  try clear hcz20_2
                  try clear hcz20_3
                  try clear hcz20_4
                  try clear hcz20_5
                  try clear hcz20_6
                  try clear hcz20_7
                  try clear hcz23_0
                  try clear hcz23_1
                  try clear hcz23_2
                  try clear hcz23_3
                  try clear hcz23_4
                  try clear hcz23_5
                  try clear hcz23_6
                  try clear hcz23_7
                  try clear hcz26_0
                  try clear hcz26_1
                  try clear hcz26_2
                  try clear hcz26_3
                  try clear hcz26_4
                  try clear hcz26_5
                  try clear hcz26_6
                  try clear hcz26_7
                  try clear hcz29_0
                  try clear hcz29_1
                  try clear hcz29_2
                  try clear hcz29_3
                  try clear hcz29_4
                  try clear hcz29_5
                  try clear hcz29_6
                  try clear hcz29_7
                  try clear hcz37_0
                  try clear hcz37_1
                  try clear hcz41_0
                  try clear hcz41_1
                  try clear hcz42_0
                  try clear hcz42_1
                  try clear hcz42_2
                  try clear hcz42_3
                  try clear hcz42_4
                  try clear hcz42_5
                  try clear hcz42_6
                  try clear hcz42_7
                  try clear hcz44_0
                  try clear hcz44_1
                  try clear hcz45_0
                  try clear hcz45_1
                  try clear hcz45_2
                  try clear hcz45_3
                  try clear hcz45_4
                  try clear hcz45_5
                  try clear hcz45_6
                  try clear hcz45_7
                  try clear hcz47_0
                  try clear hcz47_1
                  try clear hcz48_0
                  try clear hcz48_1
                  try clear hcz48_2
                  try clear hcz48_3
                  try clear hcz48_4
                  try clear hcz48_5
                  try clear hcz48_6
                  try clear hcz48_7
                  try clear hfz17_0
                  try clear hfz17_1
                  try clear hfz17_2
                  try clear hfz17_3
                  try clear hfz17_4
                  try clear hfz17_5
                  try clear hfz17_6
                  try clear hfz17_7
                  try clear hfz20_0
                  try clear hfz20_1
                  try clear hfz20_2
                  try clear hfz20_3
                  try clear hfz20_4
                  try clear hfz20_5
                  try clear hfz20_6
                  try clear hfz20_7
                  try clear hfz23_0
                  try clear hfz23_1
                  try clear hfz23_2
                  try clear hfz23_3
                  try clear hfz23_4
                  try clear hfz23_5
                  try clear hfz23_6
                  try clear hfz23_7
                  try clear hfz26_0
                  try clear hfz26_1
                  try clear hfz26_2
                  try clear hfz26_3
                  try clear hfz26_4
                  try clear hfz26_5
                  try clear hfz26_6
                  try clear hfz26_7
                  try clear hfz29_0
                  try clear hfz29_1
                  try clear hfz29_2
                  try clear hfz29_3
                  try clear hfz29_4
                  try clear hfz29_5
                  try clear hfz29_6
                  try clear hfz29_7
                  try clear hfz37_0
                  try clear hfz37_1
                  try clear hfz41_0
                  try clear hfz41_1
                  try clear hfz42_0
                  try clear hfz42_1
                  try clear hfz42_2
                  try clear hfz42_3
                  try clear hfz42_4
                  try clear hfz42_5
                  try clear hfz42_6
                  try clear hfz42_7
                  try clear hfz44_0
                  try clear hfz44_1
                  try clear hfz45_0
                  try clear hfz45_1
                  try clear hfz45_2
                  try clear hfz45_3
                  try clear hfz45_4
                  try clear hfz45_5
                  try clear hfz45_6
                  try clear hfz45_7
                  try clear hfz47_0
                  try clear hfz47_1
                  try clear hfz48_0
                  try clear hfz48_1
                  try clear hfz48_2
                  try clear hfz48_3
                  try clear hfz48_4
                  try clear hfz48_5
                  try clear hfz48_6
                  try clear hfz48_7
                  try clear hx477_0
                  try clear hx477_1
                  try clear p2
                  try clear p477
                  try clear q477
                  obtain ⟨kq, x69_33, rfl, HA, HJ33, BK471, BK478, HB⟩ := hcut
                  cases kq with
                  | zero => exact absurd HA.out (by simp [spec_Steady.j2])
                  | succ kj33 =>
                    have H := HA.out
                    clear HA
                    simp only [spec_Steady.j2] at H
                    by_cases c49 : x69_33 = true
                    · subst c49
                      have H1 : (if ((rd_T109 l1 x13_2).f0) > (wrap64 (a2 - a0_5)) then (if ((rd_T109 l1 x13_2).f0) ≤ a2 then (if ((rd_T109 l1 x13_2).f1) > x12_2 then (spec_Steady.l0 kj33 l1 a2 a3 ((rd_T109 l1 x13_2).f1) ((rd_T109 l1 x13_2).f1) (wrap64 (x13_2 + 1)) l0_0 a0_1 a0_2 l0_3 a0_4 a0_5 a0_6 a0_7) else (spec_Steady.l0 kj33 l1 a2 a3 ((rd_T109 l1 x13_2).f1) x12_2 (wrap64 (x13_2 + 1)) l0_0 a0_1 a0_2 l0_3 a0_4 a0_5 a0_6 a0_7)) else (spec_Steady.l0 kj33 l1 a2 a3 ((rd_T109 l1 x13_2).f1) x12_2 (wrap64 (x13_2 + 1)) l0_0 a0_1 a0_2 l0_3 a0_4 a0_5 a0_6 a0_7)) else (spec_Steady.l0 kj33 l1 a2 a3 ((rd_T109 l1 x13_2).f1) x12_2 (wrap64 (x13_2 + 1)) l0_0 a0_1 a0_2 l0_3 a0_4 a0_5 a0_6 a0_7)) = some r := by rw [if_pos rfl] at H; exact H
                      clear H
                      have H := H1
                      clear H1
                      by_cases c50 : ((rd_T109 l1 x13_2).f0) > (wrap64 (a2 - a0_5))
                      · rw [if_pos c50] at H
                        have c50b0 : decide ((wrap64 (a2 - a0_5)) < ((rd_T109 l1 x13_2).f0)) = true := decide_eq_true c50
                        clear c50
                        by_cases c51 : ((rd_T109 l1 x13_2).f0) ≤ a2
                        · rw [if_pos c51] at H
                          have c51b0 : decide (((rd_T109 l1 x13_2).f0) ≤ a2) = true := decide_eq_true c51
                          clear c51
                          by_cases c52 : ((rd_T109 l1 x13_2).f1) > x12_2
                          · rw [if_pos c52] at H
                            have c52b0 : decide (x12_2 < ((rd_T109 l1 x13_2).f1)) = true := decide_eq_true c52
                            clear c52
                            have H' := Aside0.mk H
                            clear H
                            have hnb53 := NB478_471.out
                            have hnc53 := NB471_478.out
                            have hcz54_0 : wc.cell? ⟨gb478, 0, none⟩ = some (.int .i64 ((rd_T109 l1 x13_2).f0)) := (blk_cell BK478.out 0).trans rfl
                            have hcz54_1 : wc.cell? ⟨gb478, 1, none⟩ = some (.int .i64 ((rd_T109 l1 x13_2).f1)) := (blk_cell BK478.out 1).trans rfl
                            have hfz54_0 := blk_frozen BK478.out 0
                            have hfz54_1 := blk_frozen BK478.out 1
                            have hcz55_0 : wc.cell? ⟨gb471, 0, none⟩ = some (.slice A0_0 l0_0.length c0_0) := (blk_cell BK471.out 0).trans rfl
                            have hcz55_1 : wc.cell? ⟨gb471, 1, none⟩ = some (.int .i64 a0_1) := (blk_cell BK471.out 1).trans rfl
                            have hcz55_2 : wc.cell? ⟨gb471, 2, none⟩ = some (.int .i64 a0_2) := (blk_cell BK471.out 2).trans rfl
                            have hcz55_3 : wc.cell? ⟨gb471, 3, none⟩ = some (.slice A0_3 l0_3.length c0_3) := (blk_cell BK471.out 3).trans rfl
                            have hcz55_4 : wc.cell? ⟨gb471, 4, none⟩ = some (.int .i64 a0_4) := (blk_cell BK471.out 4).trans rfl
                            have hcz55_5 : wc.cell? ⟨gb471, 5, none⟩ = some (.int .i64 a0_5) := (blk_cell BK471.out 5).trans rfl
                            have hcz55_6 : wc.cell? ⟨gb471, 6, none⟩ = some (.int .i64 a0_6) := (blk_cell BK471.out 6).trans rfl
                            have hcz55_7 : wc.cell? ⟨gb471, 7, none⟩ = some (.int .i64 a0_7) := (blk_cell BK471.out 7).trans rfl
                            have hfz55_0 := blk_frozen BK471.out 0
                            have hfz55_1 := blk_frozen BK471.out 1
                            have hfz55_2 := blk_frozen BK471.out 2
                            have hfz55_3 := blk_frozen BK471.out 3
                            have hfz55_4 := blk_frozen BK471.out 4
                            have hfz55_5 := blk_frozen BK471.out 5
                            have hfz55_6 := blk_frozen BK471.out 6
                            have hfz55_7 := blk_frozen BK471.out 7
                            go_wp2
                            go_roundg kj33
                            case measure => have := HJ5.out; have := HK2.out; have := HJ33.out; omega
                            case rel => exact ⟨(((rd_T109 l1 x13_2).f1)), (((rd_T109 l1 x13_2).f1)), (wrap64 (x13_2 + 1)), (by first | rfl | (simp; done) | (simp [*]; done)), (by first | rfl | (simp; done) | (simp [*]; done)), (by first | rfl | (simp; done) | (simp [*]; done)), H', ⟨by have := HJ5.out; have := HK2.out; have := HJ33.out; omega⟩, ⟨by (with_reducible repeat (first | refine blk_drewN ?_ _ | refine blk_drew ?_ | refine blk_alloc ?_ _)); exact BK471.out⟩, ⟨by repeat (first | (with_reducible first | exact HB.out | apply below_alloc | apply pw_below_drewN | apply below_drew1 | refine below_set ?_ GE471.out | refine below_set ?_ GE478.out) | exact HB.out)⟩⟩
                          · rw [if_neg c52] at H
                            have c52b0 : decide (x12_2 < ((rd_T109 l1 x13_2).f1)) = false := decide_eq_false c52
                            clear c52
                            have H' := Aside0.mk H
                            clear H
                            have hnb56 := NB478_471.out
                            have hnc56 := NB471_478.out
                            have hcz57_0 : wc.cell? ⟨gb478, 0, none⟩ = some (.int .i64 ((rd_T109 l1 x13_2).f0)) := (blk_cell BK478.out 0).trans rfl
                            have hcz57_1 : wc.cell? ⟨gb478, 1, none⟩ = some (.int .i64 ((rd_T109 l1 x13_2).f1)) := (blk_cell BK478.out 1).trans rfl
                            have hfz57_0 := blk_frozen BK478.out 0
                            have hfz57_1 := blk_frozen BK478.out 1
                            have hcz58_0 : wc.cell? ⟨gb471, 0, none⟩ = some (.slice A0_0 l0_0.length c0_0) := (blk_cell BK471.out 0).trans rfl
                            have hcz58_1 : wc.cell? ⟨gb471, 1, none⟩ = some (.int .i64 a0_1) := (blk_cell BK471.out 1).trans rfl
                            have hcz58_2 : wc.cell? ⟨gb471, 2, none⟩ = some (.int .i64 a0_2) := (blk_cell BK471.out 2).trans rfl
                            have hcz58_3 : wc.cell? ⟨gb471, 3, none⟩ = some (.slice A0_3 l0_3.length c0_3) := (blk_cell BK471.out 3).trans rfl
                            have hcz58_4 : wc.cell? ⟨gb471, 4, none⟩ = some (.int .i64 a0_4) := (blk_cell BK471.out 4).trans rfl
                            have hcz58_5 : wc.cell? ⟨gb471, 5, none⟩ = some (.int .i64 a0_5) := (blk_cell BK471.out 5).trans rfl
                            have hcz58_6 : wc.cell? ⟨gb471, 6, none⟩ = some (.int .i64 a0_6) := (blk_cell BK471.out 6).trans rfl
                            have hcz58_7 : wc.cell? ⟨gb471, 7, none⟩ = some (.int .i64 a0_7) := (blk_cell BK471.out 7).trans rfl
                            have hfz58_0 := blk_frozen BK471.out 0
                            have hfz58_1 := blk_frozen BK471.out 1
                            have hfz58_2 := blk_frozen BK471.out 2
                            have hfz58_3 := blk_frozen BK471.out 3
                            have hfz58_4 := blk_frozen BK471.out 4
                            have hfz58_5 := blk_frozen BK471.out 5
                            have hfz58_6 := blk_frozen BK471.out 6
                            have hfz58_7 := blk_frozen BK471.out 7
                            go_wp2
                            go_roundg kj33
                            case measure => have := HJ5.out; have := HK2.out; have := HJ33.out; omega
                            case rel => exact ⟨(((rd_T109 l1 x13_2).f1)), (x12_2), (wrap64 (x13_2 + 1)), (by first | rfl | (simp; done) | (simp [*]; done)), (by first | rfl | (simp; done) | (simp [*]; done)), (by first | rfl | (simp; done) | (simp [*]; done)), H', ⟨by have := HJ5.out; have := HK2.out; have := HJ33.out; omega⟩, ⟨by (with_reducible repeat (first | refine blk_drewN ?_ _ | refine blk_drew ?_ | refine blk_alloc ?_ _)); exact BK471.out⟩, ⟨by repeat (first | (with_reducible first | exact HB.out | apply below_alloc | apply pw_below_drewN | apply below_drew1 | refine below_set ?_ GE471.out | refine below_set ?_ GE478.out) | exact HB.out)⟩⟩
                        · rw [if_neg c51] at H
                          have c51b0 : decide (((rd_T109 l1 x13_2).f0) ≤ a2) = false := decide_eq_false c51
                          clear c51
                          have H' := Aside0.mk H
                          clear H
                          have hnb59 := NB478_471.out
                          have hnc59 := NB471_478.out
                          have hcz60_0 : wc.cell? ⟨gb478, 0, none⟩ = some (.int .i64 ((rd_T109 l1 x13_2).f0)) := (blk_cell BK478.out 0).trans rfl
                          have hcz60_1 : wc.cell? ⟨gb478, 1, none⟩ = some (.int .i64 ((rd_T109 l1 x13_2).f1)) := (blk_cell BK478.out 1).trans rfl
                          have hfz60_0 := blk_frozen BK478.out 0
                          have hfz60_1 := blk_frozen BK478.out 1
                          have hcz61_0 : wc.cell? ⟨gb471, 0, none⟩ = some (.slice A0_0 l0_0.length c0_0) := (blk_cell BK471.out 0).trans rfl
                          have hcz61_1 : wc.cell? ⟨gb471, 1, none⟩ = some (.int .i64 a0_1) := (blk_cell BK471.out 1).trans rfl
                          have hcz61_2 : wc.cell? ⟨gb471, 2, none⟩ = some (.int .i64 a0_2) := (blk_cell BK471.out 2).trans rfl
                          have hcz61_3 : wc.cell? ⟨gb471, 3, none⟩ = some (.slice A0_3 l0_3.length c0_3) := (blk_cell BK471.out 3).trans rfl
                          have hcz61_4 : wc.cell? ⟨gb471, 4, none⟩ = some (.int .i64 a0_4) := (blk_cell BK471.out 4).trans rfl
                          have hcz61_5 : wc.cell? ⟨gb471, 5, none⟩ = some (.int .i64 a0_5) := (blk_cell BK471.out 5).trans rfl
                          have hcz61_6 : wc.cell? ⟨gb471, 6, none⟩ = some (.int .i64 a0_6) := (blk_cell BK471.out 6).trans rfl
                          have hcz61_7 : wc.cell? ⟨gb471, 7, none⟩ = some (.int .i64 a0_7) := (blk_cell BK471.out 7).trans rfl
                          have hfz61_0 := blk_frozen BK471.out 0
                          have hfz61_1 := blk_frozen BK471.out 1
                          have hfz61_2 := blk_frozen BK471.out 2
                          have hfz61_3 := blk_frozen BK471.out 3
                          have hfz61_4 := blk_frozen BK471.out 4
                          have hfz61_5 := blk_frozen BK471.out 5
                          have hfz61_6 := blk_frozen BK471.out 6
                          have hfz61_7 := blk_frozen BK471.out 7
                          go_wp2
                          go_roundg kj33
                          case measure => have := HJ5.out; have := HK2.out; have := HJ33.out; omega
                          case rel => exact ⟨(((rd_T109 l1 x13_2).f1)), (x12_2), (wrap64 (x13_2 + 1)), (by first | rfl | (simp; done) | (simp [*]; done)), (by first | rfl | (simp; done) | (simp [*]; done)), (by first | rfl | (simp; done) | (simp [*]; done)), H', ⟨by have := HJ5.out; have := HK2.out; have := HJ33.out; omega⟩, ⟨by (with_reducible repeat (first | refine blk_drewN ?_ _ | refine blk_drew ?_ | refine blk_alloc ?_ _)); exact BK471.out⟩, ⟨by repeat (first | (with_reducible first | exact HB.out | apply below_alloc | apply pw_below_drewN | apply below_drew1 | refine below_set ?_ GE471.out | refine below_set ?_ GE478.out) | exact HB.out)⟩⟩
                      · rw [if_neg c50] at H
                        have c50b0 : decide ((wrap64 (a2 - a0_5)) < ((rd_T109 l1 x13_2).f0)) = false := decide_eq_false c50
                        clear c50
                        have H' := Aside0.mk H
                        clear H
                        have hnb62 := NB478_471.out
                        have hnc62 := NB471_478.out
                        have hcz63_0 : wc.cell? ⟨gb478, 0, none⟩ = some (.int .i64 ((rd_T109 l1 x13_2).f0)) := (blk_cell BK478.out 0).trans rfl
                        have hcz63_1 : wc.cell? ⟨gb478, 1, none⟩ = some (.int .i64 ((rd_T109 l1 x13_2).f1)) := (blk_cell BK478.out 1).trans rfl
                        have hfz63_0 := blk_frozen BK478.out 0
                        have hfz63_1 := blk_frozen BK478.out 1
                        have hcz64_0 : wc.cell? ⟨gb471, 0, none⟩ = some (.slice A0_0 l0_0.length c0_0) := (blk_cell BK471.out 0).trans rfl
                        have hcz64_1 : wc.cell? ⟨gb471, 1, none⟩ = some (.int .i64 a0_1) := (blk_cell BK471.out 1).trans rfl
                        have hcz64_2 : wc.cell? ⟨gb471, 2, none⟩ = some (.int .i64 a0_2) := (blk_cell BK471.out 2).trans rfl
                        have hcz64_3 : wc.cell? ⟨gb471, 3, none⟩ = some (.slice A0_3 l0_3.length c0_3) := (blk_cell BK471.out 3).trans rfl
                        have hcz64_4 : wc.cell? ⟨gb471, 4, none⟩ = some (.int .i64 a0_4) := (blk_cell BK471.out 4).trans rfl
                        have hcz64_5 : wc.cell? ⟨gb471, 5, none⟩ = some (.int .i64 a0_5) := (blk_cell BK471.out 5).trans rfl
                        have hcz64_6 : wc.cell? ⟨gb471, 6, none⟩ = some (.int .i64 a0_6) := (blk_cell BK471.out 6).trans rfl
                        have hcz64_7 : wc.cell? ⟨gb471, 7, none⟩ = some (.int .i64 a0_7) := (blk_cell BK471.out 7).trans rfl
                        have hfz64_0 := blk_frozen BK471.out 0
                        have hfz64_1 := blk_frozen BK471.out 1
                        have hfz64_2 := blk_frozen BK471.out 2
                        have hfz64_3 := blk_frozen BK471.out 3
                        have hfz64_4 := blk_frozen BK471.out 4
                        have hfz64_5 := blk_frozen BK471.out 5
                        have hfz64_6 := blk_frozen BK471.out 6
                        have hfz64_7 := blk_frozen BK471.out 7
                        go_wp2
                        go_roundg kj33
                        case measure => have := HJ5.out; have := HK2.out; have := HJ33.out; omega
                        case rel => exact ⟨(((rd_T109 l1 x13_2).f1)), (x12_2), (wrap64 (x13_2 + 1)), (by first | rfl | (simp; done) | (simp [*]; done)), (by first | rfl | (simp; done) | (simp [*]; done)), (by first | rfl | (simp; done) | (simp [*]; done)), H', ⟨by have := HJ5.out; have := HK2.out; have := HJ33.out; omega⟩, ⟨by (with_reducible repeat (first | refine blk_drewN ?_ _ | refine blk_drew ?_ | refine blk_alloc ?_ _)); exact BK471.out⟩, ⟨by repeat (first | (with_reducible first | exact HB.out | apply below_alloc | apply pw_below_drewN | apply below_drew1 | refine below_set ?_ GE471.out | refine below_set ?_ GE478.out) | exact HB.out)⟩⟩
                    · replace c49 := Bool.eq_false_iff.mpr c49
                      subst c49
                      have H1 : (if ((rd_T109 l1 x13_2).f0) > (wrap64 (a2 - a0_5)) then (if ((rd_T109 l1 x13_2).f0) ≤ a2 then (if ((rd_T109 l1 x13_2).f1) > x12_2 then (spec_Steady.l0 kj33 l1 a2 a3 x11_2 ((rd_T109 l1 x13_2).f1) (wrap64 (x13_2 + 1)) l0_0 a0_1 a0_2 l0_3 a0_4 a0_5 a0_6 a0_7) else (spec_Steady.l0 kj33 l1 a2 a3 x11_2 x12_2 (wrap64 (x13_2 + 1)) l0_0 a0_1 a0_2 l0_3 a0_4 a0_5 a0_6 a0_7)) else (spec_Steady.l0 kj33 l1 a2 a3 x11_2 x12_2 (wrap64 (x13_2 + 1)) l0_0 a0_1 a0_2 l0_3 a0_4 a0_5 a0_6 a0_7)) else (spec_Steady.l0 kj33 l1 a2 a3 x11_2 x12_2 (wrap64 (x13_2 + 1)) l0_0 a0_1 a0_2 l0_3 a0_4 a0_5 a0_6 a0_7)) = some r := by rw [if_neg (show ¬ (false = true) by decide)] at H; exact H
                      clear H
                      have H := H1
                      clear H1
                      by_cases c65 : ((rd_T109 l1 x13_2).f0) > (wrap64 (a2 - a0_5))
                      · rw [if_pos c65] at H
                        have c65b0 : decide ((wrap64 (a2 - a0_5)) < ((rd_T109 l1 x13_2).f0)) = true := decide_eq_true c65
                        clear c65
                        by_cases c66 : ((rd_T109 l1 x13_2).f0) ≤ a2
                        · rw [if_pos c66] at H
                          have c66b0 : decide (((rd_T109 l1 x13_2).f0) ≤ a2) = true := decide_eq_true c66
                          clear c66
                          by_cases c67 : ((rd_T109 l1 x13_2).f1) > x12_2
                          · rw [if_pos c67] at H
                            have c67b0 : decide (x12_2 < ((rd_T109 l1 x13_2).f1)) = true := decide_eq_true c67
                            clear c67
                            have H' := Aside0.mk H
                            clear H
                            have hnb68 := NB478_471.out
                            have hnc68 := NB471_478.out
                            have hcz69_0 : wc.cell? ⟨gb478, 0, none⟩ = some (.int .i64 ((rd_T109 l1 x13_2).f0)) := (blk_cell BK478.out 0).trans rfl
                            have hcz69_1 : wc.cell? ⟨gb478, 1, none⟩ = some (.int .i64 ((rd_T109 l1 x13_2).f1)) := (blk_cell BK478.out 1).trans rfl
                            have hfz69_0 := blk_frozen BK478.out 0
                            have hfz69_1 := blk_frozen BK478.out 1
                            have hcz70_0 : wc.cell? ⟨gb471, 0, none⟩ = some (.slice A0_0 l0_0.length c0_0) := (blk_cell BK471.out 0).trans rfl
                            have hcz70_1 : wc.cell? ⟨gb471, 1, none⟩ = some (.int .i64 a0_1) := (blk_cell BK471.out 1).trans rfl
                            have hcz70_2 : wc.cell? ⟨gb471, 2, none⟩ = some (.int .i64 a0_2) := (blk_cell BK471.out 2).trans rfl
                            have hcz70_3 : wc.cell? ⟨gb471, 3, none⟩ = some (.slice A0_3 l0_3.length c0_3) := (blk_cell BK471.out 3).trans rfl
                            have hcz70_4 : wc.cell? ⟨gb471, 4, none⟩ = some (.int .i64 a0_4) := (blk_cell BK471.out 4).trans rfl
                            have hcz70_5 : wc.cell? ⟨gb471, 5, none⟩ = some (.int .i64 a0_5) := (blk_cell BK471.out 5).trans rfl
                            have hcz70_6 : wc.cell? ⟨gb471, 6, none⟩ = some (.int .i64 a0_6) := (blk_cell BK471.out 6).trans rfl
                            have hcz70_7 : wc.cell? ⟨gb471, 7, none⟩ = some (.int .i64 a0_7) := (blk_cell BK471.out 7).trans rfl
                            have hfz70_0 := blk_frozen BK471.out 0
                            have hfz70_1 := blk_frozen BK471.out 1
                            have hfz70_2 := blk_frozen BK471.out 2
                            have hfz70_3 := blk_frozen BK471.out 3
                            have hfz70_4 := blk_frozen BK471.out 4
                            have hfz70_5 := blk_frozen BK471.out 5
                            have hfz70_6 := blk_frozen BK471.out 6
                            have hfz70_7 := blk_frozen BK471.out 7
                            go_wp2
                            go_roundg kj33
                            case measure => have := HJ5.out; have := HK2.out; have := HJ33.out; omega
                            case rel => exact ⟨(x11_2), (((rd_T109 l1 x13_2).f1)), (wrap64 (x13_2 + 1)), (by first | rfl | (simp; done) | (simp [*]; done)), (by first | rfl | (simp; done) | (simp [*]; done)), (by first | rfl | (simp; done) | (simp [*]; done)), H', ⟨by have := HJ5.out; have := HK2.out; have := HJ33.out; omega⟩, ⟨by (with_reducible repeat (first | refine blk_drewN ?_ _ | refine blk_drew ?_ | refine blk_alloc ?_ _)); exact BK471.out⟩, ⟨by repeat (first | (with_reducible first | exact HB.out | apply below_alloc | apply pw_below_drewN | apply below_drew1 | refine below_set ?_ GE471.out | refine below_set ?_ GE478.out) | exact HB.out)⟩⟩
                          · rw [if_neg c67] at H
                            have c67b0 : decide (x12_2 < ((rd_T109 l1 x13_2).f1)) = false := decide_eq_false c67
                            clear c67
                            have H' := Aside0.mk H
                            clear H
                            have hnb71 := NB478_471.out
                            have hnc71 := NB471_478.out
                            have hcz72_0 : wc.cell? ⟨gb478, 0, none⟩ = some (.int .i64 ((rd_T109 l1 x13_2).f0)) := (blk_cell BK478.out 0).trans rfl
                            have hcz72_1 : wc.cell? ⟨gb478, 1, none⟩ = some (.int .i64 ((rd_T109 l1 x13_2).f1)) := (blk_cell BK478.out 1).trans rfl
                            have hfz72_0 := blk_frozen BK478.out 0
                            have hfz72_1 := blk_frozen BK478.out 1
                            have hcz73_0 : wc.cell? ⟨gb471, 0, none⟩ = some (.slice A0_0 l0_0.length c0_0) := (blk_cell BK471.out 0).trans rfl
                            have hcz73_1 : wc.cell? ⟨gb471, 1, none⟩ = some (.int .i64 a0_1) := (blk_cell BK471.out 1).trans rfl
                            have hcz73_2 : wc.cell? ⟨gb471, 2, none⟩ = some (.int .i64 a0_2) := (blk_cell BK471.out 2).trans rfl
                            have hcz73_3 : wc.cell? ⟨gb471, 3, none⟩ = some (.slice A0_3 l0_3.length c0_3) := (blk_cell BK471.out 3).trans rfl
                            have hcz73_4 : wc.cell? ⟨gb471, 4, none⟩ = some (.int .i64 a0_4) := (blk_cell BK471.out 4).trans rfl
                            have hcz73_5 : wc.cell? ⟨gb471, 5, none⟩ = some (.int .i64 a0_5) := (blk_cell BK471.out 5).trans rfl
                            have hcz73_6 : wc.cell? ⟨gb471, 6, none⟩ = some (.int .i64 a0_6) := (blk_cell BK471.out 6).trans rfl
                            have hcz73_7 : wc.cell? ⟨gb471, 7, none⟩ = some (.int .i64 a0_7) := (blk_cell BK471.out 7).trans rfl
                            have hfz73_0 := blk_frozen BK471.out 0
                            have hfz73_1 := blk_frozen BK471.out 1
                            have hfz73_2 := blk_frozen BK471.out 2
                            have hfz73_3 := blk_frozen BK471.out 3
                            have hfz73_4 := blk_frozen BK471.out 4
                            have hfz73_5 := blk_frozen BK471.out 5
                            have hfz73_6 := blk_frozen BK471.out 6
                            have hfz73_7 := blk_frozen BK471.out 7
                            go_wp2
                            go_roundg kj33
                            case measure => have := HJ5.out; have := HK2.out; have := HJ33.out; omega
                            case rel => exact ⟨(x11_2), (x12_2), (wrap64 (x13_2 + 1)), (by first | rfl | (simp; done) | (simp [*]; done)), (by first | rfl | (simp; done) | (simp [*]; done)), (by first | rfl | (simp; done) | (simp [*]; done)), H', ⟨by have := HJ5.out; have := HK2.out; have := HJ33.out; omega⟩, ⟨by (with_reducible repeat (first | refine blk_drewN ?_ _ | refine blk_drew ?_ | refine blk_alloc ?_ _)); exact BK471.out⟩, ⟨by repeat (first | (with_reducible first | exact HB.out | apply below_alloc | apply pw_below_drewN | apply below_drew1 | refine below_set ?_ GE471.out | refine below_set ?_ GE478.out) | exact HB.out)⟩⟩
                        · rw [if_neg c66] at H
                          have c66b0 : decide (((rd_T109 l1 x13_2).f0) ≤ a2) = false := decide_eq_false c66
                          clear c66
                          have H' := Aside0.mk H
                          clear H
                          have hnb74 := NB478_471.out
                          have hnc74 := NB471_478.out
                          have hcz75_0 : wc.cell? ⟨gb478, 0, none⟩ = some (.int .i64 ((rd_T109 l1 x13_2).f0)) := (blk_cell BK478.out 0).trans rfl
                          have hcz75_1 : wc.cell? ⟨gb478, 1, none⟩ = some (.int .i64 ((rd_T109 l1 x13_2).f1)) := (blk_cell BK478.out 1).trans rfl
                          have hfz75_0 := blk_frozen BK478.out 0
                          have hfz75_1 := blk_frozen BK478.out 1
                          have hcz76_0 : wc.cell? ⟨gb471, 0, none⟩ = some (.slice A0_0 l0_0.length c0_0) := (blk_cell BK471.out 0).trans rfl
                          have hcz76_1 : wc.cell? ⟨gb471, 1, none⟩ = some (.int .i64 a0_1) := (blk_cell BK471.out 1).trans rfl
                          have hcz76_2 : wc.cell? ⟨gb471, 2, none⟩ = some (.int .i64 a0_2) := (blk_cell BK471.out 2).trans rfl
                          have hcz76_3 : wc.cell? ⟨gb471, 3, none⟩ = some (.slice A0_3 l0_3.length c0_3) := (blk_cell BK471.out 3).trans rfl
                          have hcz76_4 : wc.cell? ⟨gb471, 4, none⟩ = some (.int .i64 a0_4) := (blk_cell BK471.out 4).trans rfl
                          have hcz76_5 : wc.cell? ⟨gb471, 5, none⟩ = some (.int .i64 a0_5) := (blk_cell BK471.out 5).trans rfl
                          have hcz76_6 : wc.cell? ⟨gb471, 6, none⟩ = some (.int .i64 a0_6) := (blk_cell BK471.out 6).trans rfl
                          have hcz76_7 : wc.cell? ⟨gb471, 7, none⟩ = some (.int .i64 a0_7) := (blk_cell BK471.out 7).trans rfl
                          have hfz76_0 := blk_frozen BK471.out 0
                          have hfz76_1 := blk_frozen BK471.out 1
                          have hfz76_2 := blk_frozen BK471.out 2
                          have hfz76_3 := blk_frozen BK471.out 3
                          have hfz76_4 := blk_frozen BK471.out 4
                          have hfz76_5 := blk_frozen BK471.out 5
                          have hfz76_6 := blk_frozen BK471.out 6
                          have hfz76_7 := blk_frozen BK471.out 7
                          go_wp2
                          go_roundg kj33
                          case measure => have := HJ5.out; have := HK2.out; have := HJ33.out; omega
                          case rel => exact ⟨(x11_2), (x12_2), (wrap64 (x13_2 + 1)), (by first | rfl | (simp; done) | (simp [*]; done)), (by first | rfl | (simp; done) | (simp [*]; done)), (by first | rfl | (simp; done) | (simp [*]; done)), H', ⟨by have := HJ5.out; have := HK2.out; have := HJ33.out; omega⟩, ⟨by (with_reducible repeat (first | refine blk_drewN ?_ _ | refine blk_drew ?_ | refine blk_alloc ?_ _)); exact BK471.out⟩, ⟨by repeat (first | (with_reducible first | exact HB.out | apply below_alloc | apply pw_below_drewN | apply below_drew1 | refine below_set ?_ GE471.out | refine below_set ?_ GE478.out) | exact HB.out)⟩⟩
                      · rw [if_neg c65] at H
                        have c65b0 : decide ((wrap64 (a2 - a0_5)) < ((rd_T109 l1 x13_2).f0)) = false := decide_eq_false c65
                        clear c65
                        have H' := Aside0.mk H
                        clear H
                        have hnb77 := NB478_471.out
                        have hnc77 := NB471_478.out
                        have hcz78_0 : wc.cell? ⟨gb478, 0, none⟩ = some (.int .i64 ((rd_T109 l1 x13_2).f0)) := (blk_cell BK478.out 0).trans rfl
                        have hcz78_1 : wc.cell? ⟨gb478, 1, none⟩ = some (.int .i64 ((rd_T109 l1 x13_2).f1)) := (blk_cell BK478.out 1).trans rfl
                        have hfz78_0 := blk_frozen BK478.out 0
                        have hfz78_1 := blk_frozen BK478.out 1
                        have hcz79_0 : wc.cell? ⟨gb471, 0, none⟩ = some (.slice A0_0 l0_0.length c0_0) := (blk_cell BK471.out 0).trans rfl
                        have hcz79_1 : wc.cell? ⟨gb471, 1, none⟩ = some (.int .i64 a0_1) := (blk_cell BK471.out 1).trans rfl
                        have hcz79_2 : wc.cell? ⟨gb471, 2, none⟩ = some (.int .i64 a0_2) := (blk_cell BK471.out 2).trans rfl
                        have hcz79_3 : wc.cell? ⟨gb471, 3, none⟩ = some (.slice A0_3 l0_3.length c0_3) := (blk_cell BK471.out 3).trans rfl
                        have hcz79_4 : wc.cell? ⟨gb471, 4, none⟩ = some (.int .i64 a0_4) := (blk_cell BK471.out 4).trans rfl
                        have hcz79_5 : wc.cell? ⟨gb471, 5, none⟩ = some (.int .i64 a0_5) := (blk_cell BK471.out 5).trans rfl
                        have hcz79_6 : wc.cell? ⟨gb471, 6, none⟩ = some (.int .i64 a0_6) := (blk_cell BK471.out 6).trans rfl
                        have hcz79_7 : wc.cell? ⟨gb471, 7, none⟩ = some (.int .i64 a0_7) := (blk_cell BK471.out 7).trans rfl
                        have hfz79_0 := blk_frozen BK471.out 0
                        have hfz79_1 := blk_frozen BK471.out 1
                        have hfz79_2 := blk_frozen BK471.out 2
                        have hfz79_3 := blk_frozen BK471.out 3
                        have hfz79_4 := blk_frozen BK471.out 4
                        have hfz79_5 := blk_frozen BK471.out 5
                        have hfz79_6 := blk_frozen BK471.out 6
                        have hfz79_7 := blk_frozen BK471.out 7
                        go_wp2
                        go_roundg kj33
                        case measure => have := HJ5.out; have := HK2.out; have := HJ33.out; omega
                        case rel => exact ⟨(x11_2), (x12_2), (wrap64 (x13_2 + 1)), (by first | rfl | (simp; done) | (simp [*]; done)), (by first | rfl | (simp; done) | (simp [*]; done)), (by first | rfl | (simp; done) | (simp [*]; done)), H', ⟨by have := HJ5.out; have := HK2.out; have := HJ33.out; omega⟩, ⟨by (with_reducible repeat (first | refine blk_drewN ?_ _ | refine blk_drew ?_ | refine blk_alloc ?_ _)); exact BK471.out⟩, ⟨by repeat (first | (with_reducible first | exact HB.out | apply below_alloc | apply pw_below_drewN | apply below_drew1 | refine below_set ?_ GE471.out | refine below_set ?_ GE478.out) | exact HB.out)⟩⟩
              · rw [if_neg c33] at H
                exact absurd H (by simp)
            · rw [if_neg c32] at H
              have c32b0 : decide (x13_2 < (l1.length : Int)) = false := decide_eq_false c32
              clear c32
              by_cases c80 : a3 < x11_2
              · rw [if_pos c80] at H
                have c80b0 : decide (a3 < x11_2) = true := decide_eq_true c80
                clear c80
                obtain rfl := Option.some.inj H
                go_wp2
                go_ret
                exact ⟨by first | rfl | (simp [errW_none, errW_some] <;> rfl) | (simp [*, errW_none, errW_some] <;> rfl), by repeat (first | (with_reducible first | exact HB.out | apply below_alloc | apply pw_below_drewN | apply below_drew1 | refine below_set ?_ GE471.out) | exact HB.out)⟩
              · rw [if_neg c80] at H
                have c80b0 : decide (a3 < x11_2) = false := decide_eq_false c80
                clear c80
                by_cases c81 : a3 > x12_2
                · rw [if_pos c81] at H
                  have c81b0 : decide (x12_2 < a3) = true := decide_eq_true c81
                  clear c81
                  obtain rfl := Option.some.inj H
                  go_wp2
                  go_ret
                  exact ⟨by first | rfl | (simp [errW_none, errW_some] <;> rfl) | (simp [*, errW_none, errW_some] <;> rfl), by repeat (first | (with_reducible first | exact HB.out | apply below_alloc | apply pw_below_drewN | apply below_drew1 | refine below_set ?_ GE471.out) | exact HB.out)⟩
                · rw [if_neg c81] at H
                  have c81b0 : decide (x12_2 < a3) = false := decide_eq_false c81
                  clear c81
                  obtain rfl := Option.some.inj H
                  go_wp2
                  go_ret
                  exact ⟨by first | rfl | (simp [errW_none, errW_some] <;> rfl) | (simp [*, errW_none, errW_some] <;> rfl), by repeat (first | (with_reducible first | exact HB.out | apply below_alloc | apply pw_below_drewN | apply below_drew1 | refine below_set ?_ GE471.out) | exact HB.out)⟩

end Go.Proofs.Ytfjjlipfjddaiaa.U
