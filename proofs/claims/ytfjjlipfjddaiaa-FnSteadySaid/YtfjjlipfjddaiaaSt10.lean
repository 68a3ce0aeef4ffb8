-- PRINTED by print.py (a twelfth state) out of the translation. Not trusted: Lean checks it.
import Derived.Test.YtfjjlipfjddaiaaSt0
import Derived.Test.YtfjjlipfjddaiaaSt9
namespace Go.Proofs.Ytfjjlipfjddaiaa.St
open Go.RowKit Go.Proofs.YtfjjlipfjddaiaaW.PrintWords Go.Proofs.YtfjjlipfjddaiaaW.PrintLast Go.Proofs.YtfjjlipfjddaiaaW.PrintMore
attribute [local go_sem] max2_int min2_int max_two min_two max_three min_three max_four min_four   -- for this text's walks alone
set_option linter.unusedVariables false
set_option linter.unusedSimpArgs false

/-! ### impl_NotesOk: function 86 -/
def impl_NotesOk.l0 : Nat → List (S109) → List (S109) → Int → Int → Option (Bool)
  | 0, _, _, _, _ => none
  | k + 1, x0, x5, x6, x7 => if x7 < x6 then (if 0 ≤ x7 then (if x7 < (x5.length : Int) then ((impl_isTick.f ((rd_T109 x5 x7).f0)).bind fun t355 => (if t355 = true then ((impl_isCount.f ((rd_T109 x5 x7).f1)).bind fun t356 => (if t356 = true then (if x7 > 0 then (if 0 ≤ (wrap64 (x7 - 1)) then (if (wrap64 (x7 - 1)) < (x0.length : Int) then (if ((rd_T109 x0 (wrap64 (x7 - 1))).f0) > ((rd_T109 x5 x7).f0) then (some false) else (impl_NotesOk.l0 k x0 x5 x6 (wrap64 (x7 + 1)))) else (none)) else (none)) else (impl_NotesOk.l0 k x0 x5 x6 (wrap64 (x7 + 1)))) else (some false))) else (some false))) else (none)) else (none)) else (some (decide ((x0.length : Int) ≤ 200)))
def impl_NotesOk.f (k : Nat) (l0 : List (S109)) : Option (Bool) := impl_NotesOk.l0 k l0 l0 (l0.length : Int) 0
theorem impl_NotesOk.mono_l : ∀ k, (∀ y0 y1 y2 y3, LeO (impl_NotesOk.l0 k y0 y1 y2 y3) (impl_NotesOk.l0 (k + 1) y0 y1 y2 y3))
  | 0 => fun _ _ _ _ r h => by simp [impl_NotesOk.l0] at h
  | k + 1 => by
    have ih0 := impl_NotesOk.mono_l k
    · intro y0 y1 y2 y3
      unfold impl_NotesOk.l0
      repeat' with_reducible first | exact ih0 _ _ _ _ | exact LeO.refl _ | exact LeO.none _ | refine LeO.ite ?_ ?_ | refine LeO.bind ?_ (fun _ => ?_)
theorem impl_NotesOk.mono : ∀ a0 k, LeO (impl_NotesOk.f k a0) (impl_NotesOk.f (k + 1) a0) := by
  intro a0 k
  have ih0 := impl_NotesOk.mono_l k
  unfold impl_NotesOk.f
  repeat' with_reducible first | exact ih0 _ _ _ _ | exact LeO.refl _ | exact LeO.none _ | refine LeO.ite ?_ ?_ | refine LeO.bind ?_ (fun _ => ?_)
set_option maxHeartbeats 8000000 in
set_option maxRecDepth 100000 in
theorem impl_NotesOk.calls (k : Nat) (A0 : Option Addr) (c0 : Nat) (l0 : List (S109)) (r : Bool) (w : World) (hr0 : Kd.C k109 w A0 l0.length l0) (hc0 : l0.length ≤ c0) (h : impl_NotesOk.f k l0 = some r) :
  Calls Try.prog 86 #[.slice A0 l0.length c0] w fun e w' => e = .returned (.bool r) ∧ Below w.heap.size w w' := by
 have hu109 := Try.underlying109
 have HR0 := Aside0.mk hr0
 have HC0 := Aside0.mk hc0
 clear hr0 hc0
 have HB := Aside0.mk (Below.refl w.heap.size w)
 have H : (impl_NotesOk.l0 k l0 l0 (l0.length : Int) 0) = some r := h
 clear h
 have H' := Aside0.mk H
 clear H
 go_enter Try.func86, Try.ntmps86
 go_wp2
 repeat (go_quiet (fail); try go_wp2)
 go_loopg [7] k (fun kq v7 w' => ∃ (x7_1 : Int), v7 = .int .i64 x7_1 ∧ Aside0 (impl_NotesOk.l0 kq l0 l0 (l0.length : Int) x7_1 = some r) ∧ Aside0 (kq ≤ k) ∧ Aside0 (Below w.heap.size w w'))
 case atStart => exact ⟨(0), (by first | rfl | (simp; done) | (simp [*]; done)), H', ⟨Nat.le_refl _⟩, ⟨hb_⟩⟩
 case round =>
  clear H'
  obtain ⟨x7_1, rfl, HA, HK1, HB⟩ := hrel
  cases gk with
  | zero => exact absurd HA.out (by simp [impl_NotesOk.l0])
  | succ k1 =>
   have H := HA.out
   clear HA
   simp only [impl_NotesOk.l0] at H
   by_cases c2 : x7_1 < (l0.length : Int)
   ·rw [if_pos c2] at H
    have c2b0 : decide (x7_1 < (l0.length : Int)) = true := decide_eq_true c2
    clear c2
    by_cases c3 : 0 ≤ x7_1
    ·rw [if_pos c3] at H
     have c3b0 : decide (0 ≤ x7_1) = true := decide_eq_true c3
     clear c3
     by_cases c4 : x7_1 < (l0.length : Int)
     ·rw [if_pos c4] at H
      have c4b0 : decide (x7_1 < (l0.length : Int)) = true := decide_eq_true c4
      clear c4
      replace H := Option.bind_eq_some_iff.mp H
      obtain ⟨t355, A50, H⟩ := H
      replace H : (if t355 = true then ((impl_isCount.f ((rd_T109 l0 x7_1).f1)).bind fun t356 => (if t356 = true then (if x7_1 > 0 then (if 0 ≤ (wrap64 (x7_1 - 1)) then (if (wrap64 (x7_1 - 1)) < (l0.length : Int) then (if ((rd_T109 l0 (wrap64 (x7_1 - 1))).f0) > ((rd_T109 l0 x7_1).f0) then (some false) else (impl_NotesOk.l0 k1 l0 l0 (l0.length : Int) (wrap64 (x7_1 + 1)))) else (none)) else (none)) else (impl_NotesOk.l0 k1 l0 l0 (l0.length : Int) (wrap64 (x7_1 + 1)))) else (some false))) else (some false)) = some r := H
      have A5 := Aside0.mk A50
      clear A50
      by_cases c6 : t355 = true
      ·subst c6
       rw [if_pos rfl] at H
       replace H := Option.bind_eq_some_iff.mp H
       obtain ⟨t356, A70, H⟩ := H
       replace H : (if t356 = true then (if x7_1 > 0 then (if 0 ≤ (wrap64 (x7_1 - 1)) then (if (wrap64 (x7_1 - 1)) < (l0.length : Int) then (if ((rd_T109 l0 (wrap64 (x7_1 - 1))).f0) > ((rd_T109 l0 x7_1).f0) then (some false) else (impl_NotesOk.l0 k1 l0 l0 (l0.length : Int) (wrap64 (x7_1 + 1)))) else (none)) else (none)) else (impl_NotesOk.l0 k1 l0 l0 (l0.length : Int) (wrap64 (x7_1 + 1)))) else (some false)) = some r := H
       have A7 := Aside0.mk A70
       clear A70
       by_cases c8 : t356 = true
       ·subst c8
        rw [if_pos rfl] at H
        by_cases c9 : x7_1 > 0
        ·rw [if_pos c9] at H
         have c9b0 : decide (0 < x7_1) = true := decide_eq_true c9
         clear c9
         obtain ⟨ji10, hji10⟩ : ∃ j_ : Int, (wrap64 (x7_1 - 1)) = j_ := ⟨_, rfl⟩
         replace H : (if 0 ≤ (ji10) then (if (ji10) < (l0.length : Int) then (if ((rd_T109 l0 (ji10)).f0) > ((rd_T109 l0 x7_1).f0) then (some false) else (impl_NotesOk.l0 k1 l0 l0 (l0.length : Int) (wrap64 (x7_1 + 1)))) else (none)) else (none)) = some r := by first | (rw [hji10] at H; exact H) | (simp only [hji10] at H ⊢; exact H)
         (try rw [hji10] at A5)
         (try rw [hji10] at A7)
         have hji10w : (IntKind.i64.wrap (x7_1 - 1)) = ji10 := (i64_w _).trans hji10
         by_cases c11 : 0 ≤ (ji10)
         ·rw [if_pos c11] at H
          have c11b0 : decide (0 ≤ (ji10)) = true := decide_eq_true c11
          clear c11
          by_cases c12 : (ji10) < (l0.length : Int)
          ·rw [if_pos c12] at H
           have c12b0 : decide ((ji10) < (l0.length : Int)) = true := decide_eq_true c12
           clear c12
           by_cases c13 : ((rd_T109 l0 (ji10)).f0) > ((rd_T109 l0 x7_1).f0)
           ·rw [if_pos c13] at H
            have c13b0 : decide (((rd_T109 l0 x7_1).f0) < ((rd_T109 l0 (ji10)).f0)) = true := decide_eq_true c13
            clear c13
            obtain rfl := Option.some.inj H
            have p353 : 0 ≤ (x7_1 : Int) := of_decide_eq_true (by first | (with_reducible assumption) | assumption)
            have q353 : x7_1 < (l0.length : Int) := of_decide_eq_true (by first | (with_reducible assumption) | assumption)
            obtain ⟨ad353, e353, hx353_0, hx353_1⟩ := at_T109 HR0.out x7_1 p353 q353
            cases e353
            replace hx353_0 := cx_ HB hx353_0
            replace hx353_1 := cx_ HB hx353_1
            replace p353 := eq_true p353
            replace q353 := eq_true q353
            go_wp2_with (first | ((with_reducible refine gate_dst (N := 4) rfl ?_); refine be_ (N := 4) (cs := #[.int .i64 0, .int .i64 0]) (t := 109) ?_; intro gb354 hg w14 hbox hb; have BK354 := ak_ hbox; have GW354 := ak_ ((gs_ hg : w.heap.size ≤ gb354)); have GE354 := ak_ ((gs_ hg : w.heap.size ≤ gb354)); replace HB := ak_ (below_step hb_ hb); clear hb hbox hg; obtain ⟨hcz15_0, hcz15_1, hfz15_0, hfz15_1⟩ := bc2_ BK354.out) | (go_at_call 67; (with_reducible refine (impl_isTick.calls ((rd_T109 l0 x7_1).f0) true _ A5.out).mono ?_); rintro e w' ⟨rfl, ⟨nd, rfl⟩⟩; (try first | exact ⟨rfl, _, World.drewN_drewN _ _ _⟩ | exact ⟨rfl, _, Eq.trans (World.drewN_drewN _ _ _) (congrArg (World.drewN _) (Nat.add_assoc _ _ _))⟩)) | (go_at_call 68; (with_reducible refine (impl_isCount.calls ((rd_T109 l0 x7_1).f1) true _ A7.out).mono ?_); rintro e w' ⟨rfl, ⟨nd, rfl⟩⟩; (try first | exact ⟨rfl, _, World.drewN_drewN _ _ _⟩ | exact ⟨rfl, _, Eq.trans (World.drewN_drewN _ _ _) (congrArg (World.drewN _) (Nat.add_assoc _ _ _))⟩); have p357 : 0 ≤ ((ji10) : Int) := of_decide_eq_true (by first | (with_reducible assumption) | assumption); have q357 : (ji10) < (l0.length : Int) := of_decide_eq_true (by first | (with_reducible assumption) | assumption); obtain ⟨ad357, e357, hx357_0, hx357_1⟩ := at_T109 HR0.out (ji10) p357 q357; obtain rfl : ad353 = ad357 := (by injection e357); have hn357_0 : ad353.block ≠ gb354 := Nat.ne_of_lt (Nat.lt_of_lt_of_le (by have := World.block_lt_of_cell? _ _ hx357_0; first | rwa [add_block] at this | exact this) GW354.out); have hn357_1 : ad353.block ≠ gb354 := Nat.ne_of_lt (Nat.lt_of_lt_of_le (by have := World.block_lt_of_cell? _ _ hx357_0; first | rwa [add_block] at this | exact this) GW354.out); replace hx357_0 := cx_ HB hx357_0; replace hx357_1 := cx_ HB hx357_1; replace hx357_0 := (cell_far (p := ⟨gb354, 0, none⟩) (by first | (rw [add_block]; exact hn357_0) | (show (Addr.add _ _).block ≠ _; rw [add_block]; exact hn357_0) | exact hn357_0) (.int .i64 ((rd_T109 l0 x7_1).f0))).trans hx357_0; replace hx357_1 := (cell_far (p := ⟨gb354, 0, none⟩) (by first | (rw [add_block]; exact hn357_0) | (show (Addr.add _ _).block ≠ _; rw [add_block]; exact hn357_0) | exact hn357_0) (.int .i64 ((rd_T109 l0 x7_1).f0))).trans hx357_1; replace hx357_0 := (cell_far (p := ⟨gb354, 1, none⟩) (by first | (rw [add_block]; exact hn357_1) | (show (Addr.add _ _).block ≠ _; rw [add_block]; exact hn357_1) | exact hn357_1) (.int .i64 ((rd_T109 l0 x7_1).f1))).trans hx357_0; replace hx357_1 := (cell_far (p := ⟨gb354, 1, none⟩) (by first | (rw [add_block]; exact hn357_1) | (show (Addr.add _ _).block ≠ _; rw [add_block]; exact hn357_1) | exact hn357_1) (.int .i64 ((rd_T109 l0 x7_1).f1))).trans hx357_1; (try have hy357_0 := fun (n_ : Nat) => (show ((((w14.drewN n_).setCell ⟨gb354, 0, none⟩ (.int .i64 ((rd_T109 l0 x7_1).f0))).setCell ⟨gb354, 1, none⟩ (.int .i64 ((rd_T109 l0 x7_1).f1)))).cell? _ = some _ from hx357_0)); (try have hy357_1 := fun (n_ : Nat) => (show ((((w14.drewN n_).setCell ⟨gb354, 0, none⟩ (.int .i64 ((rd_T109 l0 x7_1).f0))).setCell ⟨gb354, 1, none⟩ (.int .i64 ((rd_T109 l0 x7_1).f1)))).cell? _ = some _ from hx357_1)); clear hn357_0; clear hn357_1; replace p357 := eq_true p357; replace q357 := eq_true q357))
            repeat (go_quiet (first | ((with_reducible refine gate_dst (N := 4) rfl ?_); refine be_ (N := 4) (cs := #[.int .i64 0, .int .i64 0]) (t := 109) ?_; intro gb354 hg w14 hbox hb; have BK354 := ak_ hbox; have GW354 := ak_ ((gs_ hg : w.heap.size ≤ gb354)); have GE354 := ak_ ((gs_ hg : w.heap.size ≤ gb354)); replace HB := ak_ (below_step hb_ hb); clear hb hbox hg; obtain ⟨hcz15_0, hcz15_1, hfz15_0, hfz15_1⟩ := bc2_ BK354.out) | (go_at_call 67; (with_reducible refine (impl_isTick.calls ((rd_T109 l0 x7_1).f0) true _ A5.out).mono ?_); rintro e w' ⟨rfl, ⟨nd, rfl⟩⟩; (try first | exact ⟨rfl, _, World.drewN_drewN _ _ _⟩ | exact ⟨rfl, _, Eq.trans (World.drewN_drewN _ _ _) (congrArg (World.drewN _) (Nat.add_assoc _ _ _))⟩)) | (go_at_call 68; (with_reducible refine (impl_isCount.calls ((rd_T109 l0 x7_1).f1) true _ A7.out).mono ?_); rintro e w' ⟨rfl, ⟨nd, rfl⟩⟩; (try first | exact ⟨rfl, _, World.drewN_drewN _ _ _⟩ | exact ⟨rfl, _, Eq.trans (World.drewN_drewN _ _ _) (congrArg (World.drewN _) (Nat.add_assoc _ _ _))⟩); have p357 : 0 ≤ ((ji10) : Int) := of_decide_eq_true (by first | (with_reducible assumption) | assumption); have q357 : (ji10) < (l0.length : Int) := of_decide_eq_true (by first | (with_reducible assumption) | assumption); obtain ⟨ad357, e357, hx357_0, hx357_1⟩ := at_T109 HR0.out (ji10) p357 q357; obtain rfl : ad353 = ad357 := (by injection e357); have hn357_0 : ad353.block ≠ gb354 := Nat.ne_of_lt (Nat.lt_of_lt_of_le (by have := World.block_lt_of_cell? _ _ hx357_0; first | rwa [add_block] at this | exact this) GW354.out); have hn357_1 : ad353.block ≠ gb354 := Nat.ne_of_lt (Nat.lt_of_lt_of_le (by have := World.block_lt_of_cell? _ _ hx357_0; first | rwa [add_block] at this | exact this) GW354.out); replace hx357_0 := cx_ HB hx357_0; replace hx357_1 := cx_ HB hx357_1; replace hx357_0 := (cell_far (p := ⟨gb354, 0, none⟩) (by first | (rw [add_block]; exact hn357_0) | (show (Addr.add _ _).block ≠ _; rw [add_block]; exact hn357_0) | exact hn357_0) (.int .i64 ((rd_T109 l0 x7_1).f0))).trans hx357_0; replace hx357_1 := (cell_far (p := ⟨gb354, 0, none⟩) (by first | (rw [add_block]; exact hn357_0) | (show (Addr.add _ _).block ≠ _; rw [add_block]; exact hn357_0) | exact hn357_0) (.int .i64 ((rd_T109 l0 x7_1).f0))).trans hx357_1; replace hx357_0 := (cell_far (p := ⟨gb354, 1, none⟩) (by first | (rw [add_block]; exact hn357_1) | (show (Addr.add _ _).block ≠ _; rw [add_block]; exact hn357_1) | exact hn357_1) (.int .i64 ((rd_T109 l0 x7_1).f1))).trans hx357_0; replace hx357_1 := (cell_far (p := ⟨gb354, 1, none⟩) (by first | (rw [add_block]; exact hn357_1) | (show (Addr.add _ _).block ≠ _; rw [add_block]; exact hn357_1) | exact hn357_1) (.int .i64 ((rd_T109 l0 x7_1).f1))).trans hx357_1; (try have hy357_0 := fun (n_ : Nat) => (show ((((w14.drewN n_).setCell ⟨gb354, 0, none⟩ (.int .i64 ((rd_T109 l0 x7_1).f0))).setCell ⟨gb354, 1, none⟩ (.int .i64 ((rd_T109 l0 x7_1).f1)))).cell? _ = some _ from hx357_0)); (try have hy357_1 := fun (n_ : Nat) => (show ((((w14.drewN n_).setCell ⟨gb354, 0, none⟩ (.int .i64 ((rd_T109 l0 x7_1).f0))).setCell ⟨gb354, 1, none⟩ (.int .i64 ((rd_T109 l0 x7_1).f1)))).cell? _ = some _ from hx357_1)); clear hn357_0; clear hn357_1; replace p357 := eq_true p357; replace q357 := eq_true q357)); try go_wp2_with (first | ((with_reducible refine gate_dst (N := 4) rfl ?_); refine be_ (N := 4) (cs := #[.int .i64 0, .int .i64 0]) (t := 109) ?_; intro gb354 hg w14 hbox hb; have BK354 := ak_ hbox; have GW354 := ak_ ((gs_ hg : w.heap.size ≤ gb354)); have GE354 := ak_ ((gs_ hg : w.heap.size ≤ gb354)); replace HB := ak_ (below_step hb_ hb); clear hb hbox hg; obtain ⟨hcz15_0, hcz15_1, hfz15_0, hfz15_1⟩ := bc2_ BK354.out) | (go_at_call 67; (with_reducible refine (impl_isTick.calls ((rd_T109 l0 x7_1).f0) true _ A5.out).mono ?_); rintro e w' ⟨rfl, ⟨nd, rfl⟩⟩; (try first | exact ⟨rfl, _, World.drewN_drewN _ _ _⟩ | exact ⟨rfl, _, Eq.trans (World.drewN_drewN _ _ _) (congrArg (World.drewN _) (Nat.add_assoc _ _ _))⟩)) | (go_at_call 68; (with_reducible refine (impl_isCount.calls ((rd_T109 l0 x7_1).f1) true _ A7.out).mono ?_); rintro e w' ⟨rfl, ⟨nd, rfl⟩⟩; (try first | exact ⟨rfl, _, World.drewN_drewN _ _ _⟩ | exact ⟨rfl, _, Eq.trans (World.drewN_drewN _ _ _) (congrArg (World.drewN _) (Nat.add_assoc _ _ _))⟩); have p357 : 0 ≤ ((ji10) : Int) := of_decide_eq_true (by first | (with_reducible assumption) | assumption); have q357 : (ji10) < (l0.length : Int) := of_decide_eq_true (by first | (with_reducible assumption) | assumption); obtain ⟨ad357, e357, hx357_0, hx357_1⟩ := at_T109 HR0.out (ji10) p357 q357; obtain rfl : ad353 = ad357 := (by injection e357); have hn357_0 : ad353.block ≠ gb354 := Nat.ne_of_lt (Nat.lt_of_lt_of_le (by have := World.block_lt_of_cell? _ _ hx357_0; first | rwa [add_block] at this | exact this) GW354.out); have hn357_1 : ad353.block ≠ gb354 := Nat.ne_of_lt (Nat.lt_of_lt_of_le (by have := World.block_lt_of_cell? _ _ hx357_0; first | rwa [add_block] at this | exact this) GW354.out); replace hx357_0 := cx_ HB hx357_0; replace hx357_1 := cx_ HB hx357_1; replace hx357_0 := (cell_far (p := ⟨gb354, 0, none⟩) (by first | (rw [add_block]; exact hn357_0) | (show (Addr.add _ _).block ≠ _; rw [add_block]; exact hn357_0) | exact hn357_0) (.int .i64 ((rd_T109 l0 x7_1).f0))).trans hx357_0; replace hx357_1 := (cell_far (p := ⟨gb354, 0, none⟩) (by first | (rw [add_block]; exact hn357_0) | (show (Addr.add _ _).block ≠ _; rw [add_block]; exact hn357_0) | exact hn357_0) (.int .i64 ((rd_T109 l0 x7_1).f0))).trans hx357_1; replace hx357_0 := (cell_far (p := ⟨gb354, 1, none⟩) (by first | (rw [add_block]; exact hn357_1) | (show (Addr.add _ _).block ≠ _; rw [add_block]; exact hn357_1) | exact hn357_1) (.int .i64 ((rd_T109 l0 x7_1).f1))).trans hx357_0; replace hx357_1 := (cell_far (p := ⟨gb354, 1, none⟩) (by first | (rw [add_block]; exact hn357_1) | (show (Addr.add _ _).block ≠ _; rw [add_block]; exact hn357_1) | exact hn357_1) (.int .i64 ((rd_T109 l0 x7_1).f1))).trans hx357_1; (try have hy357_0 := fun (n_ : Nat) => (show ((((w14.drewN n_).setCell ⟨gb354, 0, none⟩ (.int .i64 ((rd_T109 l0 x7_1).f0))).setCell ⟨gb354, 1, none⟩ (.int .i64 ((rd_T109 l0 x7_1).f1)))).cell? _ = some _ from hx357_0)); (try have hy357_1 := fun (n_ : Nat) => (show ((((w14.drewN n_).setCell ⟨gb354, 0, none⟩ (.int .i64 ((rd_T109 l0 x7_1).f0))).setCell ⟨gb354, 1, none⟩ (.int .i64 ((rd_T109 l0 x7_1).f1)))).cell? _ = some _ from hx357_1)); clear hn357_0; clear hn357_1; replace p357 := eq_true p357; replace q357 := eq_true q357)))
            go_ret
            exact ⟨by first | rfl | (simp [errW_none, errW_some] <;> rfl) | (simp only [← hji10]; first | rfl | (simp [errW_none, errW_some] <;> rfl)) | (simp [*, errW_none, errW_some] <;> rfl), hb_⟩
           ·rw [if_neg c13] at H
            have c13b0 : decide (((rd_T109 l0 x7_1).f0) < ((rd_T109 l0 (ji10)).f0)) = false := decide_eq_false c13
            clear c13
            have H' := Aside0.mk H
            clear H
            have p353 : 0 ≤ (x7_1 : Int) := of_decide_eq_true (by first | (with_reducible assumption) | assumption)
            have q353 : x7_1 < (l0.length : Int) := of_decide_eq_true (by first | (with_reducible assumption) | assumption)
            obtain ⟨ad353, e353, hx353_0, hx353_1⟩ := at_T109 HR0.out x7_1 p353 q353
            cases e353
            replace hx353_0 := cx_ HB hx353_0
            replace hx353_1 := cx_ HB hx353_1
            replace p353 := eq_true p353
            replace q353 := eq_true q353
            go_wp2_with (first | ((with_reducible refine gate_dst (N := 4) rfl ?_); refine be_ (N := 4) (cs := #[.int .i64 0, .int .i64 0]) (t := 109) ?_; intro gb354 hg w16 hbox hb; have BK354 := ak_ hbox; have GW354 := ak_ ((gs_ hg : w.heap.size ≤ gb354)); have GE354 := ak_ ((gs_ hg : w.heap.size ≤ gb354)); replace HB := ak_ (below_step hb_ hb); clear hb hbox hg; obtain ⟨hcz17_0, hcz17_1, hfz17_0, hfz17_1⟩ := bc2_ BK354.out) | (go_at_call 67; (with_reducible refine (impl_isTick.calls ((rd_T109 l0 x7_1).f0) true _ A5.out).mono ?_); rintro e w' ⟨rfl, ⟨nd, rfl⟩⟩; (try first | exact ⟨rfl, _, World.drewN_drewN _ _ _⟩ | exact ⟨rfl, _, Eq.trans (World.drewN_drewN _ _ _) (congrArg (World.drewN _) (Nat.add_assoc _ _ _))⟩)) | (go_at_call 68; (with_reducible refine (impl_isCount.calls ((rd_T109 l0 x7_1).f1) true _ A7.out).mono ?_); rintro e w' ⟨rfl, ⟨nd, rfl⟩⟩; (try first | exact ⟨rfl, _, World.drewN_drewN _ _ _⟩ | exact ⟨rfl, _, Eq.trans (World.drewN_drewN _ _ _) (congrArg (World.drewN _) (Nat.add_assoc _ _ _))⟩); have p357 : 0 ≤ ((ji10) : Int) := of_decide_eq_true (by first | (with_reducible assumption) | assumption); have q357 : (ji10) < (l0.length : Int) := of_decide_eq_true (by first | (with_reducible assumption) | assumption); obtain ⟨ad357, e357, hx357_0, hx357_1⟩ := at_T109 HR0.out (ji10) p357 q357; obtain rfl : ad353 = ad357 := (by injection e357); have hn357_0 : ad353.block ≠ gb354 := Nat.ne_of_lt (Nat.lt_of_lt_of_le (by have := World.block_lt_of_cell? _ _ hx357_0; first | rwa [add_block] at this | exact this) GW354.out); have hn357_1 : ad353.block ≠ gb354 := Nat.ne_of_lt (Nat.lt_of_lt_of_le (by have := World.block_lt_of_cell? _ _ hx357_0; first | rwa [add_block] at this | exact this) GW354.out); replace hx357_0 := cx_ HB hx357_0; replace hx357_1 := cx_ HB hx357_1; replace hx357_0 := (cell_far (p := ⟨gb354, 0, none⟩) (by first | (rw [add_block]; exact hn357_0) | (show (Addr.add _ _).block ≠ _; rw [add_block]; exact hn357_0) | exact hn357_0) (.int .i64 ((rd_T109 l0 x7_1).f0))).trans hx357_0; replace hx357_1 := (cell_far (p := ⟨gb354, 0, none⟩) (by first | (rw [add_block]; exact hn357_0) | (show (Addr.add _ _).block ≠ _; rw [add_block]; exact hn357_0) | exact hn357_0) (.int .i64 ((rd_T109 l0 x7_1).f0))).trans hx357_1; replace hx357_0 := (cell_far (p := ⟨gb354, 1, none⟩) (by first | (rw [add_block]; exact hn357_1) | (show (Addr.add _ _).block ≠ _; rw [add_block]; exact hn357_1) | exact hn357_1) (.int .i64 ((rd_T109 l0 x7_1).f1))).trans hx357_0; replace hx357_1 := (cell_far (p := ⟨gb354, 1, none⟩) (by first | (rw [add_block]; exact hn357_1) | (show (Addr.add _ _).block ≠ _; rw [add_block]; exact hn357_1) | exact hn357_1) (.int .i64 ((rd_T109 l0 x7_1).f1))).trans hx357_1; (try have hy357_0 := fun (n_ : Nat) => (show ((((w16.drewN n_).setCell ⟨gb354, 0, none⟩ (.int .i64 ((rd_T109 l0 x7_1).f0))).setCell ⟨gb354, 1, none⟩ (.int .i64 ((rd_T109 l0 x7_1).f1)))).cell? _ = some _ from hx357_0)); (try have hy357_1 := fun (n_ : Nat) => (show ((((w16.drewN n_).setCell ⟨gb354, 0, none⟩ (.int .i64 ((rd_T109 l0 x7_1).f0))).setCell ⟨gb354, 1, none⟩ (.int .i64 ((rd_T109 l0 x7_1).f1)))).cell? _ = some _ from hx357_1)); clear hn357_0; clear hn357_1; replace p357 := eq_true p357; replace q357 := eq_true q357))
            repeat (go_quiet (first | ((with_reducible refine gate_dst (N := 4) rfl ?_); refine be_ (N := 4) (cs := #[.int .i64 0, .int .i64 0]) (t := 109) ?_; intro gb354 hg w16 hbox hb; have BK354 := ak_ hbox; have GW354 := ak_ ((gs_ hg : w.heap.size ≤ gb354)); have GE354 := ak_ ((gs_ hg : w.heap.size ≤ gb354)); replace HB := ak_ (below_step hb_ hb); clear hb hbox hg; obtain ⟨hcz17_0, hcz17_1, hfz17_0, hfz17_1⟩ := bc2_ BK354.out) | (go_at_call 67; (with_reducible refine (impl_isTick.calls ((rd_T109 l0 x7_1).f0) true _ A5.out).mono ?_); rintro e w' ⟨rfl, ⟨nd, rfl⟩⟩; (try first | exact ⟨rfl, _, World.drewN_drewN _ _ _⟩ | exact ⟨rfl, _, Eq.trans (World.drewN_drewN _ _ _) (congrArg (World.drewN _) (Nat.add_assoc _ _ _))⟩)) | (go_at_call 68; (with_reducible refine (impl_isCount.calls ((rd_T109 l0 x7_1).f1) true _ A7.out).mono ?_); rintro e w' ⟨rfl, ⟨nd, rfl⟩⟩; (try first | exact ⟨rfl, _, World.drewN_drewN _ _ _⟩ | exact ⟨rfl, _, Eq.trans (World.drewN_drewN _ _ _) (congrArg (World.drewN _) (Nat.add_assoc _ _ _))⟩); have p357 : 0 ≤ ((ji10) : Int) := of_decide_eq_true (by first | (with_reducible assumption) | assumption); have q357 : (ji10) < (l0.length : Int) := of_decide_eq_true (by first | (with_reducible assumption) | assumption); obtain ⟨ad357, e357, hx357_0, hx357_1⟩ := at_T109 HR0.out (ji10) p357 q357; obtain rfl : ad353 = ad357 := (by injection e357); have hn357_0 : ad353.block ≠ gb354 := Nat.ne_of_lt (Nat.lt_of_lt_of_le (by have := World.block_lt_of_cell? _ _ hx357_0; first | rwa [add_block] at this | exact this) GW354.out); have hn357_1 : ad353.block ≠ gb354 := Nat.ne_of_lt (Nat.lt_of_lt_of_le (by have := World.block_lt_of_cell? _ _ hx357_0; first | rwa [add_block] at this | exact this) GW354.out); replace hx357_0 := cx_ HB hx357_0; replace hx357_1 := cx_ HB hx357_1; replace hx357_0 := (cell_far (p := ⟨gb354, 0, none⟩) (by first | (rw [add_block]; exact hn357_0) | (show (Addr.add _ _).block ≠ _; rw [add_block]; exact hn357_0) | exact hn357_0) (.int .i64 ((rd_T109 l0 x7_1).f0))).trans hx357_0; replace hx357_1 := (cell_far (p := ⟨gb354, 0, none⟩) (by first | (rw [add_block]; exact hn357_0) | (show (Addr.add _ _).block ≠ _; rw [add_block]; exact hn357_0) | exact hn357_0) (.int .i64 ((rd_T109 l0 x7_1).f0))).trans hx357_1; replace hx357_0 := (cell_far (p := ⟨gb354, 1, none⟩) (by first | (rw [add_block]; exact hn357_1) | (show (Addr.add _ _).block ≠ _; rw [add_block]; exact hn357_1) | exact hn357_1) (.int .i64 ((rd_T109 l0 x7_1).f1))).trans hx357_0; replace hx357_1 := (cell_far (p := ⟨gb354, 1, none⟩) (by first | (rw [add_block]; exact hn357_1) | (show (Addr.add _ _).block ≠ _; rw [add_block]; exact hn357_1) | exact hn357_1) (.int .i64 ((rd_T109 l0 x7_1).f1))).trans hx357_1; (try have hy357_0 := fun (n_ : Nat) => (show ((((w16.drewN n_).setCell ⟨gb354, 0, none⟩ (.int .i64 ((rd_T109 l0 x7_1).f0))).setCell ⟨gb354, 1, none⟩ (.int .i64 ((rd_T109 l0 x7_1).f1)))).cell? _ = some _ from hx357_0)); (try have hy357_1 := fun (n_ : Nat) => (show ((((w16.drewN n_).setCell ⟨gb354, 0, none⟩ (.int .i64 ((rd_T109 l0 x7_1).f0))).setCell ⟨gb354, 1, none⟩ (.int .i64 ((rd_T109 l0 x7_1).f1)))).cell? _ = some _ from hx357_1)); clear hn357_0; clear hn357_1; replace p357 := eq_true p357; replace q357 := eq_true q357)); try go_wp2_with (first | ((with_reducible refine gate_dst (N := 4) rfl ?_); refine be_ (N := 4) (cs := #[.int .i64 0, .int .i64 0]) (t := 109) ?_; intro gb354 hg w16 hbox hb; have BK354 := ak_ hbox; have GW354 := ak_ ((gs_ hg : w.heap.size ≤ gb354)); have GE354 := ak_ ((gs_ hg : w.heap.size ≤ gb354)); replace HB := ak_ (below_step hb_ hb); clear hb hbox hg; obtain ⟨hcz17_0, hcz17_1, hfz17_0, hfz17_1⟩ := bc2_ BK354.out) | (go_at_call 67; (with_reducible refine (impl_isTick.calls ((rd_T109 l0 x7_1).f0) true _ A5.out).mono ?_); rintro e w' ⟨rfl, ⟨nd, rfl⟩⟩; (try first | exact ⟨rfl, _, World.drewN_drewN _ _ _⟩ | exact ⟨rfl, _, Eq.trans (World.drewN_drewN _ _ _) (congrArg (World.drewN _) (Nat.add_assoc _ _ _))⟩)) | (go_at_call 68; (with_reducible refine (impl_isCount.calls ((rd_T109 l0 x7_1).f1) true _ A7.out).mono ?_); rintro e w' ⟨rfl, ⟨nd, rfl⟩⟩; (try first | exact ⟨rfl, _, World.drewN_drewN _ _ _⟩ | exact ⟨rfl, _, Eq.trans (World.drewN_drewN _ _ _) (congrArg (World.drewN _) (Nat.add_assoc _ _ _))⟩); have p357 : 0 ≤ ((ji10) : Int) := of_decide_eq_true (by first | (with_reducible assumption) | assumption); have q357 : (ji10) < (l0.length : Int) := of_decide_eq_true (by first | (with_reducible assumption) | assumption); obtain ⟨ad357, e357, hx357_0, hx357_1⟩ := at_T109 HR0.out (ji10) p357 q357; obtain rfl : ad353 = ad357 := (by injection e357); have hn357_0 : ad353.block ≠ gb354 := Nat.ne_of_lt (Nat.lt_of_lt_of_le (by have := World.block_lt_of_cell? _ _ hx357_0; first | rwa [add_block] at this | exact this) GW354.out); have hn357_1 : ad353.block ≠ gb354 := Nat.ne_of_lt (Nat.lt_of_lt_of_le (by have := World.block_lt_of_cell? _ _ hx357_0; first | rwa [add_block] at this | exact this) GW354.out); replace hx357_0 := cx_ HB hx357_0; replace hx357_1 := cx_ HB hx357_1; replace hx357_0 := (cell_far (p := ⟨gb354, 0, none⟩) (by first | (rw [add_block]; exact hn357_0) | (show (Addr.add _ _).block ≠ _; rw [add_block]; exact hn357_0) | exact hn357_0) (.int .i64 ((rd_T109 l0 x7_1).f0))).trans hx357_0; replace hx357_1 := (cell_far (p := ⟨gb354, 0, none⟩) (by first | (rw [add_block]; exact hn357_0) | (show (Addr.add _ _).block ≠ _; rw [add_block]; exact hn357_0) | exact hn357_0) (.int .i64 ((rd_T109 l0 x7_1).f0))).trans hx357_1; replace hx357_0 := (cell_far (p := ⟨gb354, 1, none⟩) (by first | (rw [add_block]; exact hn357_1) | (show (Addr.add _ _).block ≠ _; rw [add_block]; exact hn357_1) | exact hn357_1) (.int .i64 ((rd_T109 l0 x7_1).f1))).trans hx357_0; replace hx357_1 := (cell_far (p := ⟨gb354, 1, none⟩) (by first | (rw [add_block]; exact hn357_1) | (show (Addr.add _ _).block ≠ _; rw [add_block]; exact hn357_1) | exact hn357_1) (.int .i64 ((rd_T109 l0 x7_1).f1))).trans hx357_1; (try have hy357_0 := fun (n_ : Nat) => (show ((((w16.drewN n_).setCell ⟨gb354, 0, none⟩ (.int .i64 ((rd_T109 l0 x7_1).f0))).setCell ⟨gb354, 1, none⟩ (.int .i64 ((rd_T109 l0 x7_1).f1)))).cell? _ = some _ from hx357_0)); (try have hy357_1 := fun (n_ : Nat) => (show ((((w16.drewN n_).setCell ⟨gb354, 0, none⟩ (.int .i64 ((rd_T109 l0 x7_1).f0))).setCell ⟨gb354, 1, none⟩ (.int .i64 ((rd_T109 l0 x7_1).f1)))).cell? _ = some _ from hx357_1)); clear hn357_0; clear hn357_1; replace p357 := eq_true p357; replace q357 := eq_true q357)))
            go_roundg k1
            case measure => have := HK1.out; omega
            case rel => exact ⟨(wrap64 (x7_1 + 1)), (by first | rfl | (simp; done) | (simp [*]; done)), H', ⟨by have := HK1.out; omega⟩, ⟨hb_⟩⟩
          ·rw [if_neg c12] at H
           exact absurd H (by simp)
         ·rw [if_neg c11] at H
          exact absurd H (by simp)
        ·rw [if_neg c9] at H
         have c9b0 : decide (0 < x7_1) = false := decide_eq_false c9
         clear c9
         have H' := Aside0.mk H
         clear H
         have p353 : 0 ≤ (x7_1 : Int) := of_decide_eq_true (by first | (with_reducible assumption) | assumption)
         have q353 : x7_1 < (l0.length : Int) := of_decide_eq_true (by first | (with_reducible assumption) | assumption)
         obtain ⟨ad353, e353, hx353_0, hx353_1⟩ := at_T109 HR0.out x7_1 p353 q353
         cases e353
         replace hx353_0 := cx_ HB hx353_0
         replace hx353_1 := cx_ HB hx353_1
         replace p353 := eq_true p353
         replace q353 := eq_true q353
         go_wp2_with (first | ((with_reducible refine gate_dst (N := 4) rfl ?_); refine be_ (N := 4) (cs := #[.int .i64 0, .int .i64 0]) (t := 109) ?_; intro gb354 hg w18 hbox hb; have BK354 := ak_ hbox; have GW354 := ak_ ((gs_ hg : w.heap.size ≤ gb354)); have GE354 := ak_ ((gs_ hg : w.heap.size ≤ gb354)); replace HB := ak_ (below_step hb_ hb); clear hb hbox hg; obtain ⟨hcz19_0, hcz19_1, hfz19_0, hfz19_1⟩ := bc2_ BK354.out) | (go_at_call 67; (with_reducible refine (impl_isTick.calls ((rd_T109 l0 x7_1).f0) true _ A5.out).mono ?_); rintro e w' ⟨rfl, ⟨nd, rfl⟩⟩; (try first | exact ⟨rfl, _, World.drewN_drewN _ _ _⟩ | exact ⟨rfl, _, Eq.trans (World.drewN_drewN _ _ _) (congrArg (World.drewN _) (Nat.add_assoc _ _ _))⟩)) | (go_at_call 68; (with_reducible refine (impl_isCount.calls ((rd_T109 l0 x7_1).f1) true _ A7.out).mono ?_); rintro e w' ⟨rfl, ⟨nd, rfl⟩⟩; (try first | exact ⟨rfl, _, World.drewN_drewN _ _ _⟩ | exact ⟨rfl, _, Eq.trans (World.drewN_drewN _ _ _) (congrArg (World.drewN _) (Nat.add_assoc _ _ _))⟩)))
         repeat (go_quiet (first | ((with_reducible refine gate_dst (N := 4) rfl ?_); refine be_ (N := 4) (cs := #[.int .i64 0, .int .i64 0]) (t := 109) ?_; intro gb354 hg w18 hbox hb; have BK354 := ak_ hbox; have GW354 := ak_ ((gs_ hg : w.heap.size ≤ gb354)); have GE354 := ak_ ((gs_ hg : w.heap.size ≤ gb354)); replace HB := ak_ (below_step hb_ hb); clear hb hbox hg; obtain ⟨hcz19_0, hcz19_1, hfz19_0, hfz19_1⟩ := bc2_ BK354.out) | (go_at_call 67; (with_reducible refine (impl_isTick.calls ((rd_T109 l0 x7_1).f0) true _ A5.out).mono ?_); rintro e w' ⟨rfl, ⟨nd, rfl⟩⟩; (try first | exact ⟨rfl, _, World.drewN_drewN _ _ _⟩ | exact ⟨rfl, _, Eq.trans (World.drewN_drewN _ _ _) (congrArg (World.drewN _) (Nat.add_assoc _ _ _))⟩)) | (go_at_call 68; (with_reducible refine (impl_isCount.calls ((rd_T109 l0 x7_1).f1) true _ A7.out).mono ?_); rintro e w' ⟨rfl, ⟨nd, rfl⟩⟩; (try first | exact ⟨rfl, _, World.drewN_drewN _ _ _⟩ | exact ⟨rfl, _, Eq.trans (World.drewN_drewN _ _ _) (congrArg (World.drewN _) (Nat.add_assoc _ _ _))⟩))); try go_wp2_with (first | ((with_reducible refine gate_dst (N := 4) rfl ?_); refine be_ (N := 4) (cs := #[.int .i64 0, .int .i64 0]) (t := 109) ?_; intro gb354 hg w18 hbox hb; have BK354 := ak_ hbox; have GW354 := ak_ ((gs_ hg : w.heap.size ≤ gb354)); have GE354 := ak_ ((gs_ hg : w.heap.size ≤ gb354)); replace HB := ak_ (below_step hb_ hb); clear hb hbox hg; obtain ⟨hcz19_0, hcz19_1, hfz19_0, hfz19_1⟩ := bc2_ BK354.out) | (go_at_call 67; (with_reducible refine (impl_isTick.calls ((rd_T109 l0 x7_1).f0) true _ A5.out).mono ?_); rintro e w' ⟨rfl, ⟨nd, rfl⟩⟩; (try first | exact ⟨rfl, _, World.drewN_drewN _ _ _⟩ | exact ⟨rfl, _, Eq.trans (World.drewN_drewN _ _ _) (congrArg (World.drewN _) (Nat.add_assoc _ _ _))⟩)) | (go_at_call 68; (with_reducible refine (impl_isCount.calls ((rd_T109 l0 x7_1).f1) true _ A7.out).mono ?_); rintro e w' ⟨rfl, ⟨nd, rfl⟩⟩; (try first | exact ⟨rfl, _, World.drewN_drewN _ _ _⟩ | exact ⟨rfl, _, Eq.trans (World.drewN_drewN _ _ _) (congrArg (World.drewN _) (Nat.add_assoc _ _ _))⟩))))
         go_roundg k1
         case measure => have := HK1.out; omega
         case rel => exact ⟨(wrap64 (x7_1 + 1)), (by first | rfl | (simp; done) | (simp [*]; done)), H', ⟨by have := HK1.out; omega⟩, ⟨hb_⟩⟩
       ·replace c8 := Bool.eq_false_iff.mpr c8
        subst c8
        rw [if_neg (show ¬ (false = true) by decide)] at H
        obtain rfl := Option.some.inj H
        have p353 : 0 ≤ (x7_1 : Int) := of_decide_eq_true (by first | (with_reducible assumption) | assumption)
        have q353 : x7_1 < (l0.length : Int) := of_decide_eq_true (by first | (with_reducible assumption) | assumption)
        obtain ⟨ad353, e353, hx353_0, hx353_1⟩ := at_T109 HR0.out x7_1 p353 q353
        cases e353
        replace hx353_0 := cx_ HB hx353_0
        replace hx353_1 := cx_ HB hx353_1
        replace p353 := eq_true p353
        replace q353 := eq_true q353
        go_wp2_with (first | ((with_reducible refine gate_dst (N := 4) rfl ?_); refine be_ (N := 4) (cs := #[.int .i64 0, .int .i64 0]) (t := 109) ?_; intro gb354 hg w20 hbox hb; have BK354 := ak_ hbox; have GW354 := ak_ ((gs_ hg : w.heap.size ≤ gb354)); have GE354 := ak_ ((gs_ hg : w.heap.size ≤ gb354)); replace HB := ak_ (below_step hb_ hb); clear hb hbox hg; obtain ⟨hcz21_0, hcz21_1, hfz21_0, hfz21_1⟩ := bc2_ BK354.out) | (go_at_call 67; (with_reducible refine (impl_isTick.calls ((rd_T109 l0 x7_1).f0) true _ A5.out).mono ?_); rintro e w' ⟨rfl, ⟨nd, rfl⟩⟩; (try first | exact ⟨rfl, _, World.drewN_drewN _ _ _⟩ | exact ⟨rfl, _, Eq.trans (World.drewN_drewN _ _ _) (congrArg (World.drewN _) (Nat.add_assoc _ _ _))⟩)) | (go_at_call 68; (with_reducible refine (impl_isCount.calls ((rd_T109 l0 x7_1).f1) false _ A7.out).mono ?_); rintro e w' ⟨rfl, ⟨nd, rfl⟩⟩; (try first | exact ⟨rfl, _, World.drewN_drewN _ _ _⟩ | exact ⟨rfl, _, Eq.trans (World.drewN_drewN _ _ _) (congrArg (World.drewN _) (Nat.add_assoc _ _ _))⟩)))
        repeat (go_quiet (first | ((with_reducible refine gate_dst (N := 4) rfl ?_); refine be_ (N := 4) (cs := #[.int .i64 0, .int .i64 0]) (t := 109) ?_; intro gb354 hg w20 hbox hb; have BK354 := ak_ hbox; have GW354 := ak_ ((gs_ hg : w.heap.size ≤ gb354)); have GE354 := ak_ ((gs_ hg : w.heap.size ≤ gb354)); replace HB := ak_ (below_step hb_ hb); clear hb hbox hg; obtain ⟨hcz21_0, hcz21_1, hfz21_0, hfz21_1⟩ := bc2_ BK354.out) | (go_at_call 67; (with_reducible refine (impl_isTick.calls ((rd_T109 l0 x7_1).f0) true _ A5.out).mono ?_); rintro e w' ⟨rfl, ⟨nd, rfl⟩⟩; (try first | exact ⟨rfl, _, World.drewN_drewN _ _ _⟩ | exact ⟨rfl, _, Eq.trans (World.drewN_drewN _ _ _) (congrArg (World.drewN _) (Nat.add_assoc _ _ _))⟩)) | (go_at_call 68; (with_reducible refine (impl_isCount.calls ((rd_T109 l0 x7_1).f1) false _ A7.out).mono ?_); rintro e w' ⟨rfl, ⟨nd, rfl⟩⟩; (try first | exact ⟨rfl, _, World.drewN_drewN _ _ _⟩ | exact ⟨rfl, _, Eq.trans (World.drewN_drewN _ _ _) (congrArg (World.drewN _) (Nat.add_assoc _ _ _))⟩))); try go_wp2_with (first | ((with_reducible refine gate_dst (N := 4) rfl ?_); refine be_ (N := 4) (cs := #[.int .i64 0, .int .i64 0]) (t := 109) ?_; intro gb354 hg w20 hbox hb; have BK354 := ak_ hbox; have GW354 := ak_ ((gs_ hg : w.heap.size ≤ gb354)); have GE354 := ak_ ((gs_ hg : w.heap.size ≤ gb354)); replace HB := ak_ (below_step hb_ hb); clear hb hbox hg; obtain ⟨hcz21_0, hcz21_1, hfz21_0, hfz21_1⟩ := bc2_ BK354.out) | (go_at_call 67; (with_reducible refine (impl_isTick.calls ((rd_T109 l0 x7_1).f0) true _ A5.out).mono ?_); rintro e w' ⟨rfl, ⟨nd, rfl⟩⟩; (try first | exact ⟨rfl, _, World.drewN_drewN _ _ _⟩ | exact ⟨rfl, _, Eq.trans (World.drewN_drewN _ _ _) (congrArg (World.drewN _) (Nat.add_assoc _ _ _))⟩)) | (go_at_call 68; (with_reducible refine (impl_isCount.calls ((rd_T109 l0 x7_1).f1) false _ A7.out).mono ?_); rintro e w' ⟨rfl, ⟨nd, rfl⟩⟩; (try first | exact ⟨rfl, _, World.drewN_drewN _ _ _⟩ | exact ⟨rfl, _, Eq.trans (World.drewN_drewN _ _ _) (congrArg (World.drewN _) (Nat.add_assoc _ _ _))⟩))))
        go_ret
        exact ⟨ew_, hb_⟩
      ·replace c6 := Bool.eq_false_iff.mpr c6
       subst c6
       rw [if_neg (show ¬ (false = true) by decide)] at H
       obtain rfl := Option.some.inj H
       have p353 : 0 ≤ (x7_1 : Int) := of_decide_eq_true (by first | (with_reducible assumption) | assumption)
       have q353 : x7_1 < (l0.length : Int) := of_decide_eq_true (by first | (with_reducible assumption) | assumption)
       obtain ⟨ad353, e353, hx353_0, hx353_1⟩ := at_T109 HR0.out x7_1 p353 q353
       cases e353
       replace hx353_0 := cx_ HB hx353_0
       replace hx353_1 := cx_ HB hx353_1
       replace p353 := eq_true p353
       replace q353 := eq_true q353
       go_wp2_with (first | ((with_reducible refine gate_dst (N := 4) rfl ?_); refine be_ (N := 4) (cs := #[.int .i64 0, .int .i64 0]) (t := 109) ?_; intro gb354 hg w22 hbox hb; have BK354 := ak_ hbox; have GW354 := ak_ ((gs_ hg : w.heap.size ≤ gb354)); have GE354 := ak_ ((gs_ hg : w.heap.size ≤ gb354)); replace HB := ak_ (below_step hb_ hb); clear hb hbox hg; obtain ⟨hcz23_0, hcz23_1, hfz23_0, hfz23_1⟩ := bc2_ BK354.out) | (go_at_call 67; (with_reducible refine (impl_isTick.calls ((rd_T109 l0 x7_1).f0) false _ A5.out).mono ?_); rintro e w' ⟨rfl, ⟨nd, rfl⟩⟩; (try first | exact ⟨rfl, _, World.drewN_drewN _ _ _⟩ | exact ⟨rfl, _, Eq.trans (World.drewN_drewN _ _ _) (congrArg (World.drewN _) (Nat.add_assoc _ _ _))⟩)))
       repeat (go_quiet (first | ((with_reducible refine gate_dst (N := 4) rfl ?_); refine be_ (N := 4) (cs := #[.int .i64 0, .int .i64 0]) (t := 109) ?_; intro gb354 hg w22 hbox hb; have BK354 := ak_ hbox; have GW354 := ak_ ((gs_ hg : w.heap.size ≤ gb354)); have GE354 := ak_ ((gs_ hg : w.heap.size ≤ gb354)); replace HB := ak_ (below_step hb_ hb); clear hb hbox hg; obtain ⟨hcz23_0, hcz23_1, hfz23_0, hfz23_1⟩ := bc2_ BK354.out) | (go_at_call 67; (with_reducible refine (impl_isTick.calls ((rd_T109 l0 x7_1).f0) false _ A5.out).mono ?_); rintro e w' ⟨rfl, ⟨nd, rfl⟩⟩; (try first | exact ⟨rfl, _, World.drewN_drewN _ _ _⟩ | exact ⟨rfl, _, Eq.trans (World.drewN_drewN _ _ _) (congrArg (World.drewN _) (Nat.add_assoc _ _ _))⟩))); try go_wp2_with (first | ((with_reducible refine gate_dst (N := 4) rfl ?_); refine be_ (N := 4) (cs := #[.int .i64 0, .int .i64 0]) (t := 109) ?_; intro gb354 hg w22 hbox hb; have BK354 := ak_ hbox; have GW354 := ak_ ((gs_ hg : w.heap.size ≤ gb354)); have GE354 := ak_ ((gs_ hg : w.heap.size ≤ gb354)); replace HB := ak_ (below_step hb_ hb); clear hb hbox hg; obtain ⟨hcz23_0, hcz23_1, hfz23_0, hfz23_1⟩ := bc2_ BK354.out) | (go_at_call 67; (with_reducible refine (impl_isTick.calls ((rd_T109 l0 x7_1).f0) false _ A5.out).mono ?_); rintro e w' ⟨rfl, ⟨nd, rfl⟩⟩; (try first | exact ⟨rfl, _, World.drewN_drewN _ _ _⟩ | exact ⟨rfl, _, Eq.trans (World.drewN_drewN _ _ _) (congrArg (World.drewN _) (Nat.add_assoc _ _ _))⟩))))
       go_ret
       exact ⟨ew_, hb_⟩
     ·rw [if_neg c4] at H
      exact absurd H (by simp)
    ·rw [if_neg c3] at H
     exact absurd H (by simp)
   ·rw [if_neg c2] at H
    have c2b0 : decide (x7_1 < (l0.length : Int)) = false := decide_eq_false c2
    clear c2
    obtain rfl := Option.some.inj H
    go_wp2
    repeat (go_quiet (fail); try go_wp2)
    go_ret
    exact ⟨ew_, hb_⟩

end Go.Proofs.Ytfjjlipfjddaiaa.St
