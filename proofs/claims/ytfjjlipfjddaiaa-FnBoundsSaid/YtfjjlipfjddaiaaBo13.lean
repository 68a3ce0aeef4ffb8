-- PRINTED by print.py (a twelfth state) out of the translation. Not trusted: Lean checks it.
import Derived.Test.YtfjjlipfjddaiaaBo0
import Derived.Test.YtfjjlipfjddaiaaBo8
import Derived.Test.YtfjjlipfjddaiaaBo10
namespace Go.Proofs.Ytfjjlipfjddaiaa.Bo
open Go.RowKit Go.Proofs.YtfjjlipfjddaiaaW.PrintWords Go.Proofs.YtfjjlipfjddaiaaW.PrintLast Go.Proofs.YtfjjlipfjddaiaaW.PrintMore
attribute [local go_sem] max2_int min2_int max_two min_two max_three min_three max_four min_four   -- for this text's walks alone
set_option linter.unusedVariables false
set_option linter.unusedSimpArgs false

/-! ### impl_MovesOk: function 66 -/
def impl_MovesOk.l0 : Nat → List (S103) → List (S103) → Int → Int → Option (Bool)
  | 0, _, _, _, _ => none
  | k + 1, x0, x5, x6, x7 => if x7 < x6 then (if 0 ≤ x7 then (if x7 < (x5.length : Int) then ((impl_isTick.f ((rd_T103 x5 x7).f0)).bind fun t407 => (if t407 = true then ((impl_in.f ((rd_T103 x5 x7).f1) (-1000) 1000).bind fun t408 => (if t408 = true then (if x7 > 0 then (if 0 ≤ (wrap64 (x7 - 1)) then (if (wrap64 (x7 - 1)) < (x0.length : Int) then (if ((rd_T103 x0 (wrap64 (x7 - 1))).f0) > ((rd_T103 x5 x7).f0) then (some false) else (impl_MovesOk.l0 k x0 x5 x6 (wrap64 (x7 + 1)))) else (none)) else (none)) else (impl_MovesOk.l0 k x0 x5 x6 (wrap64 (x7 + 1)))) else (some false))) else (some false))) else (none)) else (none)) else (some (decide ((x0.length : Int) ≤ 200)))
def impl_MovesOk.f (k : Nat) (l0 : List (S103)) : Option (Bool) := impl_MovesOk.l0 k l0 l0 (l0.length : Int) 0
theorem impl_MovesOk.mono_l : ∀ k, (∀ y0 y1 y2 y3, LeO (impl_MovesOk.l0 k y0 y1 y2 y3) (impl_MovesOk.l0 (k + 1) y0 y1 y2 y3))
  | 0 => fun _ _ _ _ r h => by simp [impl_MovesOk.l0] at h
  | k + 1 => by
    have ih0 := impl_MovesOk.mono_l k
    · intro y0 y1 y2 y3
      unfold impl_MovesOk.l0
      repeat' with_reducible first | exact ih0 _ _ _ _ | exact LeO.refl _ | exact LeO.none _ | refine LeO.ite ?_ ?_ | refine LeO.bind ?_ (fun _ => ?_)
theorem impl_MovesOk.mono : ∀ a0 k, LeO (impl_MovesOk.f k a0) (impl_MovesOk.f (k + 1) a0) := by
  intro a0 k
  have ih0 := impl_MovesOk.mono_l k
  unfold impl_MovesOk.f
  repeat' with_reducible first | exact ih0 _ _ _ _ | exact LeO.refl _ | exact LeO.none _ | refine LeO.ite ?_ ?_ | refine LeO.bind ?_ (fun _ => ?_)
set_option maxHeartbeats 8000000 in
set_option maxRecDepth 100000 in
theorem impl_MovesOk.calls (k : Nat) (A0 : Option Addr) (c0 : Nat) (l0 : List (S103)) (r : Bool) (w : World) (hr0 : Kd.C k103 w A0 l0.length l0) (hc0 : l0.length ≤ c0) (h : impl_MovesOk.f k l0 = some r) :
  Calls Try.prog 66 #[.slice A0 l0.length c0] w fun e w' => e = .returned (.bool r) ∧ Below w.heap.size w w' := by
 have hu103 := Try.underlying103
 have HR0 := ak_ hr0
 have HC0 := ak_ hc0
 clear hr0 hc0
 have HB := ak_ (Below.refl w.heap.size w)
 have H : (impl_MovesOk.l0 k l0 l0 (l0.length : Int) 0) = some r := h
 clear h
 have H' := ak_ H
 clear H
 go_enter Try.func66, Try.ntmps66
 go_wp2
 repeat (go_quiet (fail); try go_wp2)
 go_loopg [7] k (fun kq v7 w' => ∃ (x7_1 : Int), v7 = .int .i64 x7_1 ∧ Aside0 (impl_MovesOk.l0 kq l0 l0 (l0.length : Int) x7_1 = some r) ∧ Aside0 (kq ≤ k) ∧ Aside0 (Below w.heap.size w w'))
 case atStart => exact ⟨(0), (by first | rfl | (simp; done) | (simp [*]; done)), H', ⟨Nat.le_refl _⟩, ⟨hb_⟩⟩
 case round =>
  clear H'
  obtain ⟨x7_1, rfl, HA, HK1, HB⟩ := hrel
  cases gk with
  | zero => exact absurd HA.out (by simp [impl_MovesOk.l0])
  | succ k1 =>
   have H := HA.out
   clear HA
   simp only [impl_MovesOk.l0] at H
   by_cases c2 : x7_1 < (l0.length : Int)
   ·rw [if_pos c2] at H
    have c2b0 : decide (x7_1 < (l0.length : Int)) = true := decide_eq_true c2
    clear c2
    by_cases c3 : 0 ≤ x7_1
    ·rw [if_pos c3] at H
     have c3b0 : decide (0 ≤ x7_1) = true := decide_eq_true c3
     clear c3
     by_cases c4 : x7_1 < (l0.length : Int)
     ·rw [if_pos c4] at H
      have c4b0 : decide (x7_1 < (l0.length : Int)) = true := decide_eq_true c4
      clear c4
      replace H := Option.bind_eq_some_iff.mp H
      obtain ⟨t407, A50, H⟩ := H
      replace H : (if t407 = true then ((impl_in.f ((rd_T103 l0 x7_1).f1) (-1000) 1000).bind fun t408 => (if t408 = true then (if x7_1 > 0 then (if 0 ≤ (wrap64 (x7_1 - 1)) then (if (wrap64 (x7_1 - 1)) < (l0.length : Int) then (if ((rd_T103 l0 (wrap64 (x7_1 - 1))).f0) > ((rd_T103 l0 x7_1).f0) then (some false) else (impl_MovesOk.l0 k1 l0 l0 (l0.length : Int) (wrap64 (x7_1 + 1)))) else (none)) else (none)) else (impl_MovesOk.l0 k1 l0 l0 (l0.length : Int) (wrap64 (x7_1 + 1)))) else (some false))) else (some false)) = some r := H
      have A5 := ak_ A50
      clear A50
      by_cases c6 : t407 = true
      ·subst c6
       rw [if_pos rfl] at H
       replace H := Option.bind_eq_some_iff.mp H
       obtain ⟨t408, A70, H⟩ := H
       replace H : (if t408 = true then (if x7_1 > 0 then (if 0 ≤ (wrap64 (x7_1 - 1)) then (if (wrap64 (x7_1 - 1)) < (l0.length : Int) then (if ((rd_T103 l0 (wrap64 (x7_1 - 1))).f0) > ((rd_T103 l0 x7_1).f0) then (some false) else (impl_MovesOk.l0 k1 l0 l0 (l0.length : Int) (wrap64 (x7_1 + 1)))) else (none)) else (none)) else (impl_MovesOk.l0 k1 l0 l0 (l0.length : Int) (wrap64 (x7_1 + 1)))) else (some false)) = some r := H
       have A7 := ak_ A70
       clear A70
       by_cases c8 : t408 = true
       ·subst c8
        rw [if_pos rfl] at H
        by_cases c9 : x7_1 > 0
        ·rw [if_pos c9] at H
         have c9b0 : decide (0 < x7_1) = true := decide_eq_true c9
         clear c9
         obtain ⟨ji10, hji10⟩ : ∃ j_ : Int, (wrap64 (x7_1 - 1)) = j_ := ⟨_, rfl⟩
         replace H : (if 0 ≤ (ji10) then (if (ji10) < (l0.length : Int) then (if ((rd_T103 l0 (ji10)).f0) > ((rd_T103 l0 x7_1).f0) then (some false) else (impl_MovesOk.l0 k1 l0 l0 (l0.length : Int) (wrap64 (x7_1 + 1)))) else (none)) else (none)) = some r := by first | (rw [hji10] at H; exact H) | (simp only [hji10] at H ⊢; exact H)
         (try rw [hji10] at A5)
         (try rw [hji10] at A7)
         have hji10w : (IntKind.i64.wrap (x7_1 - 1)) = ji10 := (i64_w _).trans hji10
         by_cases c11 : 0 ≤ (ji10)
         ·rw [if_pos c11] at H
          have c11b0 : decide (0 ≤ (ji10)) = true := decide_eq_true c11
          clear c11
          by_cases c12 : (ji10) < (l0.length : Int)
          ·rw [if_pos c12] at H
           have c12b0 : decide ((ji10) < (l0.length : Int)) = true := decide_eq_true c12
           clear c12
           by_cases c13 : ((rd_T103 l0 (ji10)).f0) > ((rd_T103 l0 x7_1).f0)
           ·rw [if_pos c13] at H
            have c13b0 : decide (((rd_T103 l0 x7_1).f0) < ((rd_T103 l0 (ji10)).f0)) = true := decide_eq_true c13
            clear c13
            obtain rfl := Option.some.inj H
            have p405 : 0 ≤ (x7_1 : Int) := of_decide_eq_true (by first | (with_reducible assumption) | assumption)
            have q405 : x7_1 < (l0.length : Int) := of_decide_eq_true (by first | (with_reducible assumption) | assumption)
            obtain ⟨ad405, e405, hx405_0, hx405_1⟩ := at_T103 HR0.out x7_1 p405 q405
            cases e405
            replace hx405_0 := cx_ HB hx405_0
            replace hx405_1 := cx_ HB hx405_1
            replace p405 := eq_true p405
            replace q405 := eq_true q405
            go_wp2_with (first | ((with_reducible refine gate_dst (N := 4) rfl ?_); refine be_ (N := 4) (cs := #[.int .i64 0, .int .i64 0]) (t := 103) ?_; intro gb406 hg w14 hbox hb; have BK406 := ak_ hbox; have GW406 := ak_ ((gs_ hg : w.heap.size ≤ gb406)); have GE406 := ak_ ((gs_ hg : w.heap.size ≤ gb406)); replace HB := ak_ (below_step hb_ hb); clear hb hbox hg; obtain ⟨hcz15_0, hcz15_1, hfz15_0, hfz15_1⟩ := bc2_ BK406.out) | (go_at_call 67; (with_reducible refine (impl_isTick.calls ((rd_T103 l0 x7_1).f0) true _ A5.out).mono ?_); rintro e w' ⟨rfl, ⟨nd, rfl⟩⟩; (try first | exact ⟨rfl, _, World.drewN_drewN _ _ _⟩ | exact ⟨rfl, _, Eq.trans (World.drewN_drewN _ _ _) (congrArg (World.drewN _) (Nat.add_assoc _ _ _))⟩)) | (go_at_call 82; (with_reducible refine (impl_in.calls ((rd_T103 l0 x7_1).f1) (-1000) 1000 true _ A7.out).mono ?_); rintro e w' ⟨rfl, ⟨nd, rfl⟩⟩; (try first | exact ⟨rfl, _, World.drewN_drewN _ _ _⟩ | exact ⟨rfl, _, Eq.trans (World.drewN_drewN _ _ _) (congrArg (World.drewN _) (Nat.add_assoc _ _ _))⟩); have p409 : 0 ≤ ((ji10) : Int) := of_decide_eq_true (by first | (with_reducible assumption) | assumption); have q409 : (ji10) < (l0.length : Int) := of_decide_eq_true (by first | (with_reducible assumption) | assumption); obtain ⟨ad409, e409, hx409_0, hx409_1⟩ := at_T103 HR0.out (ji10) p409 q409; obtain rfl : ad405 = ad409 := (by injection e409); have hn409_0 : ad405.block ≠ gb406 := Nat.ne_of_lt (Nat.lt_of_lt_of_le (by have := World.block_lt_of_cell? _ _ hx409_0; first | rwa [add_block] at this | exact this) GW406.out); have hn409_1 : ad405.block ≠ gb406 := Nat.ne_of_lt (Nat.lt_of_lt_of_le (by have := World.block_lt_of_cell? _ _ hx409_0; first | rwa [add_block] at this | exact this) GW406.out); replace hx409_0 := cx_ HB hx409_0; replace hx409_1 := cx_ HB hx409_1; replace hx409_0 := (cell_far (p := ⟨gb406, 0, none⟩) (by first | (rw [add_block]; exact hn409_0) | (show (Addr.add _ _).block ≠ _; rw [add_block]; exact hn409_0) | exact hn409_0) (.int .i64 ((rd_T103 l0 x7_1).f0))).trans hx409_0; replace hx409_1 := (cell_far (p := ⟨gb406, 0, none⟩) (by first | (rw [add_block]; exact hn409_0) | (show (Addr.add _ _).block ≠ _; rw [add_block]; exact hn409_0) | exact hn409_0) (.int .i64 ((rd_T103 l0 x7_1).f0))).trans hx409_1; replace hx409_0 := (cell_far (p := ⟨gb406, 1, none⟩) (by first | (rw [add_block]; exact hn409_1) | (show (Addr.add _ _).block ≠ _; rw [add_block]; exact hn409_1) | exact hn409_1) (.int .i64 ((rd_T103 l0 x7_1).f1))).trans hx409_0; replace hx409_1 := (cell_far (p := ⟨gb406, 1, none⟩) (by first | (rw [add_block]; exact hn409_1) | (show (Addr.add _ _).block ≠ _; rw [add_block]; exact hn409_1) | exact hn409_1) (.int .i64 ((rd_T103 l0 x7_1).f1))).trans hx409_1; (try have hy409_0 := fun (n_ : Nat) => (show ((((w14.drewN n_).setCell ⟨gb406, 0, none⟩ (.int .i64 ((rd_T103 l0 x7_1).f0))).setCell ⟨gb406, 1, none⟩ (.int .i64 ((rd_T103 l0 x7_1).f1)))).cell? _ = some _ from hx409_0)); (try have hy409_1 := fun (n_ : Nat) => (show ((((w14.drewN n_).setCell ⟨gb406, 0, none⟩ (.int .i64 ((rd_T103 l0 x7_1).f0))).setCell ⟨gb406, 1, none⟩ (.int .i64 ((rd_T103 l0 x7_1).f1)))).cell? _ = some _ from hx409_1)); clear hn409_0; clear hn409_1; replace p409 := eq_true p409; replace q409 := eq_true q409))
            repeat (go_quiet (first | ((with_reducible refine gate_dst (N := 4) rfl ?_); refine be_ (N := 4) (cs := #[.int .i64 0, .int .i64 0]) (t := 103) ?_; intro gb406 hg w14 hbox hb; have BK406 := ak_ hbox; have GW406 := ak_ ((gs_ hg : w.heap.size ≤ gb406)); have GE406 := ak_ ((gs_ hg : w.heap.size ≤ gb406)); replace HB := ak_ (below_step hb_ hb); clear hb hbox hg; obtain ⟨hcz15_0, hcz15_1, hfz15_0, hfz15_1⟩ := bc2_ BK406.out) | (go_at_call 67; (with_reducible refine (impl_isTick.calls ((rd_T103 l0 x7_1).f0) true _ A5.out).mono ?_); rintro e w' ⟨rfl, ⟨nd, rfl⟩⟩; (try first | exact ⟨rfl, _, World.drewN_drewN _ _ _⟩ | exact ⟨rfl, _, Eq.trans (World.drewN_drewN _ _ _) (congrArg (World.drewN _) (Nat.add_assoc _ _ _))⟩)) | (go_at_call 82; (with_reducible refine (impl_in.calls ((rd_T103 l0 x7_1).f1) (-1000) 1000 true _ A7.out).mono ?_); rintro e w' ⟨rfl, ⟨nd, rfl⟩⟩; (try first | exact ⟨rfl, _, World.drewN_drewN _ _ _⟩ | exact ⟨rfl, _, Eq.trans (World.drewN_drewN _ _ _) (congrArg (World.drewN _) (Nat.add_assoc _ _ _))⟩); have p409 : 0 ≤ ((ji10) : Int) := of_decide_eq_true (by first | (with_reducible assumption) | assumption); have q409 : (ji10) < (l0.length : Int) := of_decide_eq_true (by first | (with_reducible assumption) | assumption); obtain ⟨ad409, e409, hx409_0, hx409_1⟩ := at_T103 HR0.out (ji10) p409 q409; obtain rfl : ad405 = ad409 := (by injection e409); have hn409_0 : ad405.block ≠ gb406 := Nat.ne_of_lt (Nat.lt_of_lt_of_le (by have := World.block_lt_of_cell? _ _ hx409_0; first | rwa [add_block] at this | exact this) GW406.out); have hn409_1 : ad405.block ≠ gb406 := Nat.ne_of_lt (Nat.lt_of_lt_of_le (by have := World.block_lt_of_cell? _ _ hx409_0; first | rwa [add_block] at this | exact this) GW406.out); replace hx409_0 := cx_ HB hx409_0; replace hx409_1 := cx_ HB hx409_1; replace hx409_0 := (cell_far (p := ⟨gb406, 0, none⟩) (by first | (rw [add_block]; exact hn409_0) | (show (Addr.add _ _).block ≠ _; rw [add_block]; exact hn409_0) | exact hn409_0) (.int .i64 ((rd_T103 l0 x7_1).f0))).trans hx409_0; replace hx409_1 := (cell_far (p := ⟨gb406, 0, none⟩) (by first | (rw [add_block]; exact hn409_0) | (show (Addr.add _ _).block ≠ _; rw [add_block]; exact hn409_0) | exact hn409_0) (.int .i64 ((rd_T103 l0 x7_1).f0))).trans hx409_1; replace hx409_0 := (cell_far (p := ⟨gb406, 1, none⟩) (by first | (rw [add_block]; exact hn409_1) | (show (Addr.add _ _).block ≠ _; rw [add_block]; exact hn409_1) | exact hn409_1) (.int .i64 ((rd_T103 l0 x7_1).f1))).trans hx409_0; replace hx409_1 := (cell_far (p := ⟨gb406, 1, none⟩) (by first | (rw [add_block]; exact hn409_1) | (show (Addr.add _ _).block ≠ _; rw [add_block]; exact hn409_1) | exact hn409_1) (.int .i64 ((rd_T103 l0 x7_1).f1))).trans hx409_1; (try have hy409_0 := fun (n_ : Nat) => (show ((((w14.drewN n_).setCell ⟨gb406, 0, none⟩ (.int .i64 ((rd_T103 l0 x7_1).f0))).setCell ⟨gb406, 1, none⟩ (.int .i64 ((rd_T103 l0 x7_1).f1)))).cell? _ = some _ from hx409_0)); (try have hy409_1 := fun (n_ : Nat) => (show ((((w14.drewN n_).setCell ⟨gb406, 0, none⟩ (.int .i64 ((rd_T103 l0 x7_1).f0))).setCell ⟨gb406, 1, none⟩ (.int .i64 ((rd_T103 l0 x7_1).f1)))).cell? _ = some _ from hx409_1)); clear hn409_0; clear hn409_1; replace p409 := eq_true p409; replace q409 := eq_true q409)); try go_wp2_with (first | ((with_reducible refine gate_dst (N := 4) rfl ?_); refine be_ (N := 4) (cs := #[.int .i64 0, .int .i64 0]) (t := 103) ?_; intro gb406 hg w14 hbox hb; have BK406 := ak_ hbox; have GW406 := ak_ ((gs_ hg : w.heap.size ≤ gb406)); have GE406 := ak_ ((gs_ hg : w.heap.size ≤ gb406)); replace HB := ak_ (below_step hb_ hb); clear hb hbox hg; obtain ⟨hcz15_0, hcz15_1, hfz15_0, hfz15_1⟩ := bc2_ BK406.out) | (go_at_call 67; (with_reducible refine (impl_isTick.calls ((rd_T103 l0 x7_1).f0) true _ A5.out).mono ?_); rintro e w' ⟨rfl, ⟨nd, rfl⟩⟩; (try first | exact ⟨rfl, _, World.drewN_drewN _ _ _⟩ | exact ⟨rfl, _, Eq.trans (World.drewN_drewN _ _ _) (congrArg (World.drewN _) (Nat.add_assoc _ _ _))⟩)) | (go_at_call 82; (with_reducible refine (impl_in.calls ((rd_T103 l0 x7_1).f1) (-1000) 1000 true _ A7.out).mono ?_); rintro e w' ⟨rfl, ⟨nd, rfl⟩⟩; (try first | exact ⟨rfl, _, World.drewN_drewN _ _ _⟩ | exact ⟨rfl, _, Eq.trans (World.drewN_drewN _ _ _) (congrArg (World.drewN _) (Nat.add_assoc _ _ _))⟩); have p409 : 0 ≤ ((ji10) : Int) := of_decide_eq_true (by first | (with_reducible assumption) | assumption); have q409 : (ji10) < (l0.length : Int) := of_decide_eq_true (by first | (with_reducible assumption) | assumption); obtain ⟨ad409, e409, hx409_0, hx409_1⟩ := at_T103 HR0.out (ji10) p409 q409; obtain rfl : ad405 = ad409 := (by injection e409); have hn409_0 : ad405.block ≠ gb406 := Nat.ne_of_lt (Nat.lt_of_lt_of_le (by have := World.block_lt_of_cell? _ _ hx409_0; first | rwa [add_block] at this | exact this) GW406.out); have hn409_1 : ad405.block ≠ gb406 := Nat.ne_of_lt (Nat.lt_of_lt_of_le (by have := World.block_lt_of_cell? _ _ hx409_0; first | rwa [add_block] at this | exact this) GW406.out); replace hx409_0 := cx_ HB hx409_0; replace hx409_1 := cx_ HB hx409_1; replace hx409_0 := (cell_far (p := ⟨gb406, 0, none⟩) (by first | (rw [add_block]; exact hn409_0) | (show (Addr.add _ _).block ≠ _; rw [add_block]; exact hn409_0) | exact hn409_0) (.int .i64 ((rd_T103 l0 x7_1).f0))).trans hx409_0; replace hx409_1 := (cell_far (p := ⟨gb406, 0, none⟩) (by first | (rw [add_block]; exact hn409_0) | (show (Addr.add _ _).block ≠ _; rw [add_block]; exact hn409_0) | exact hn409_0) (.int .i64 ((rd_T103 l0 x7_1).f0))).trans hx409_1; replace hx409_0 := (cell_far (p := ⟨gb406, 1, none⟩) (by first | (rw [add_block]; exact hn409_1) | (show (Addr.add _ _).block ≠ _; rw [add_block]; exact hn409_1) | exact hn409_1) (.int .i64 ((rd_T103 l0 x7_1).f1))).trans hx409_0; replace hx409_1 := (cell_far (p := ⟨gb406, 1, none⟩) (by first | (rw [add_block]; exact hn409_1) | (show (Addr.add _ _).block ≠ _; rw [add_block]; exact hn409_1) | exact hn409_1) (.int .i64 ((rd_T103 l0 x7_1).f1))).trans hx409_1; (try have hy409_0 := fun (n_ : Nat) => (show ((((w14.drewN n_).setCell ⟨gb406, 0, none⟩ (.int .i64 ((rd_T103 l0 x7_1).f0))).setCell ⟨gb406, 1, none⟩ (.int .i64 ((rd_T103 l0 x7_1).f1)))).cell? _ = some _ from hx409_0)); (try have hy409_1 := fun (n_ : Nat) => (show ((((w14.drewN n_).setCell ⟨gb406, 0, none⟩ (.int .i64 ((rd_T103 l0 x7_1).f0))).setCell ⟨gb406, 1, none⟩ (.int .i64 ((rd_T103 l0 x7_1).f1)))).cell? _ = some _ from hx409_1)); clear hn409_0; clear hn409_1; replace p409 := eq_true p409; replace q409 := eq_true q409)))
            go_ret
            exact ⟨by first | rfl | (simp [errW_none, errW_some] <;> rfl) | (simp only [← hji10]; first | rfl | (simp [errW_none, errW_some] <;> rfl)) | (simp [*, errW_none, errW_some] <;> rfl), hb_⟩
           ·rw [if_neg c13] at H
            have c13b0 : decide (((rd_T103 l0 x7_1).f0) < ((rd_T103 l0 (ji10)).f0)) = false := decide_eq_false c13
            clear c13
            have H' := ak_ H
            clear H
            have p405 : 0 ≤ (x7_1 : Int) := of_decide_eq_true (by first | (with_reducible assumption) | assumption)
            have q405 : x7_1 < (l0.length : Int) := of_decide_eq_true (by first | (with_reducible assumption) | assumption)
            obtain ⟨ad405, e405, hx405_0, hx405_1⟩ := at_T103 HR0.out x7_1 p405 q405
            cases e405
            replace hx405_0 := cx_ HB hx405_0
            replace hx405_1 := cx_ HB hx405_1
            replace p405 := eq_true p405
            replace q405 := eq_true q405
            go_wp2_with (first | ((with_reducible refine gate_dst (N := 4) rfl ?_); refine be_ (N := 4) (cs := #[.int .i64 0, .int .i64 0]) (t := 103) ?_; intro gb406 hg w16 hbox hb; have BK406 := ak_ hbox; have GW406 := ak_ ((gs_ hg : w.heap.size ≤ gb406)); have GE406 := ak_ ((gs_ hg : w.heap.size ≤ gb406)); replace HB := ak_ (below_step hb_ hb); clear hb hbox hg; obtain ⟨hcz17_0, hcz17_1, hfz17_0, hfz17_1⟩ := bc2_ BK406.out) | (go_at_call 67; (with_reducible refine (impl_isTick.calls ((rd_T103 l0 x7_1).f0) true _ A5.out).mono ?_); rintro e w' ⟨rfl, ⟨nd, rfl⟩⟩; (try first | exact ⟨rfl, _, World.drewN_drewN _ _ _⟩ | exact ⟨rfl, _, Eq.trans (World.drewN_drewN _ _ _) (congrArg (World.drewN _) (Nat.add_assoc _ _ _))⟩)) | (go_at_call 82; (with_reducible refine (impl_in.calls ((rd_T103 l0 x7_1).f1) (-1000) 1000 true _ A7.out).mono ?_); rintro e w' ⟨rfl, ⟨nd, rfl⟩⟩; (try first | exact ⟨rfl, _, World.drewN_drewN _ _ _⟩ | exact ⟨rfl, _, Eq.trans (World.drewN_drewN _ _ _) (congrArg (World.drewN _) (Nat.add_assoc _ _ _))⟩); have p409 : 0 ≤ ((ji10) : Int) := of_decide_eq_true (by first | (with_reducible assumption) | assumption); have q409 : (ji10) < (l0.length : Int) := of_decide_eq_true (by first | (with_reducible assumption) | assumption); obtain ⟨ad409, e409, hx409_0, hx409_1⟩ := at_T103 HR0.out (ji10) p409 q409; obtain rfl : ad405 = ad409 := (by injection e409); have hn409_0 : ad405.block ≠ gb406 := Nat.ne_of_lt (Nat.lt_of_lt_of_le (by have := World.block_lt_of_cell? _ _ hx409_0; first | rwa [add_block] at this | exact this) GW406.out); have hn409_1 : ad405.block ≠ gb406 := Nat.ne_of_lt (Nat.lt_of_lt_of_le (by have := World.block_lt_of_cell? _ _ hx409_0; first | rwa [add_block] at this | exact this) GW406.out); replace hx409_0 := cx_ HB hx409_0; replace hx409_1 := cx_ HB hx409_1; replace hx409_0 := (cell_far (p := ⟨gb406, 0, none⟩) (by first | (rw [add_block]; exact hn409_0) | (show (Addr.add _ _).block ≠ _; rw [add_block]; exact hn409_0) | exact hn409_0) (.int .i64 ((rd_T103 l0 x7_1).f0))).trans hx409_0; replace hx409_1 := (cell_far (p := ⟨gb406, 0, none⟩) (by first | (rw [add_block]; exact hn409_0) | (show (Addr.add _ _).block ≠ _; rw [add_block]; exact hn409_0) | exact hn409_0) (.int .i64 ((rd_T103 l0 x7_1).f0))).trans hx409_1; replace hx409_0 := (cell_far (p := ⟨gb406, 1, none⟩) (by first | (rw [add_block]; exact hn409_1) | (show (Addr.add _ _).block ≠ _; rw [add_block]; exact hn409_1) | exact hn409_1) (.int .i64 ((rd_T103 l0 x7_1).f1))).trans hx409_0; replace hx409_1 := (cell_far (p := ⟨gb406, 1, none⟩) (by first | (rw [add_block]; exact hn409_1) | (show (Addr.add _ _).block ≠ _; rw [add_block]; exact hn409_1) | exact hn409_1) (.int .i64 ((rd_T103 l0 x7_1).f1))).trans hx409_1; (try have hy409_0 := fun (n_ : Nat) => (show ((((w16.drewN n_).setCell ⟨gb406, 0, none⟩ (.int .i64 ((rd_T103 l0 x7_1).f0))).setCell ⟨gb406, 1, none⟩ (.int .i64 ((rd_T103 l0 x7_1).f1)))).cell? _ = some _ from hx409_0)); (try have hy409_1 := fun (n_ : Nat) => (show ((((w16.drewN n_).setCell ⟨gb406, 0, none⟩ (.int .i64 ((rd_T103 l0 x7_1).f0))).setCell ⟨gb406, 1, none⟩ (.int .i64 ((rd_T103 l0 x7_1).f1)))).cell? _ = some _ from hx409_1)); clear hn409_0; clear hn409_1; replace p409 := eq_true p409; replace q409 := eq_true q409))
            repeat (go_quiet (first | ((with_reducible refine gate_dst (N := 4) rfl ?_); refine be_ (N := 4) (cs := #[.int .i64 0, .int .i64 0]) (t := 103) ?_; intro gb406 hg w16 hbox hb; have BK406 := ak_ hbox; have GW406 := ak_ ((gs_ hg : w.heap.size ≤ gb406)); have GE406 := ak_ ((gs_ hg : w.heap.size ≤ gb406)); replace HB := ak_ (below_step hb_ hb); clear hb hbox hg; obtain ⟨hcz17_0, hcz17_1, hfz17_0, hfz17_1⟩ := bc2_ BK406.out) | (go_at_call 67; (with_reducible refine (impl_isTick.calls ((rd_T103 l0 x7_1).f0) true _ A5.out).mono ?_); rintro e w' ⟨rfl, ⟨nd, rfl⟩⟩; (try first | exact ⟨rfl, _, World.drewN_drewN _ _ _⟩ | exact ⟨rfl, _, Eq.trans (World.drewN_drewN _ _ _) (congrArg (World.drewN _) (Nat.add_assoc _ _ _))⟩)) | (go_at_call 82; (with_reducible refine (impl_in.calls ((rd_T103 l0 x7_1).f1) (-1000) 1000 true _ A7.out).mono ?_); rintro e w' ⟨rfl, ⟨nd, rfl⟩⟩; (try first | exact ⟨rfl, _, World.drewN_drewN _ _ _⟩ | exact ⟨rfl, _, Eq.trans (World.drewN_drewN _ _ _) (congrArg (World.drewN _) (Nat.add_assoc _ _ _))⟩); have p409 : 0 ≤ ((ji10) : Int) := of_decide_eq_true (by first | (with_reducible assumption) | assumption); have q409 : (ji10) < (l0.length : Int) := of_decide_eq_true (by first | (with_reducible assumption) | assumption); obtain ⟨ad409, e409, hx409_0, hx409_1⟩ := at_T103 HR0.out (ji10) p409 q409; obtain rfl : ad405 = ad409 := (by injection e409); have hn409_0 : ad405.block ≠ gb406 := Nat.ne_of_lt (Nat.lt_of_lt_of_le (by have := World.block_lt_of_cell? _ _ hx409_0; first | rwa [add_block] at this | exact this) GW406.out); have hn409_1 : ad405.block ≠ gb406 := Nat.ne_of_lt (Nat.lt_of_lt_of_le (by have := World.block_lt_of_cell? _ _ hx409_0; first | rwa [add_block] at this | exact this) GW406.out); replace hx409_0 := cx_ HB hx409_0; replace hx409_1 := cx_ HB hx409_1; replace hx409_0 := (cell_far (p := ⟨gb406, 0, none⟩) (by first | (rw [add_block]; exact hn409_0) | (show (Addr.add _ _).block ≠ _; rw [add_block]; exact hn409_0) | exact hn409_0) (.int .i64 ((rd_T103 l0 x7_1).f0))).trans hx409_0; replace hx409_1 := (cell_far (p := ⟨gb406, 0, none⟩) (by first | (rw [add_block]; exact hn409_0) | (show (Addr.add _ _).block ≠ _; rw [add_block]; exact hn409_0) | exact hn409_0) (.int .i64 ((rd_T103 l0 x7_1).f0))).trans hx409_1; replace hx409_0 := (cell_far (p := ⟨gb406, 1, none⟩) (by first | (rw [add_block]; exact hn409_1) | (show (Addr.add _ _).block ≠ _; rw [add_block]; exact hn409_1) | exact hn409_1) (.int .i64 ((rd_T103 l0 x7_1).f1))).trans hx409_0; replace hx409_1 := (cell_far (p := ⟨gb406, 1, none⟩) (by first | (rw [add_block]; exact hn409_1) | (show (Addr.add _ _).block ≠ _; rw [add_block]; exact hn409_1) | exact hn409_1) (.int .i64 ((rd_T103 l0 x7_1).f1))).trans hx409_1; (try have hy409_0 := fun (n_ : Nat) => (show ((((w16.drewN n_).setCell ⟨gb406, 0, none⟩ (.int .i64 ((rd_T103 l0 x7_1).f0))).setCell ⟨gb406, 1, none⟩ (.int .i64 ((rd_T103 l0 x7_1).f1)))).cell? _ = some _ from hx409_0)); (try have hy409_1 := fun (n_ : Nat) => (show ((((w16.drewN n_).setCell ⟨gb406, 0, none⟩ (.int .i64 ((rd_T103 l0 x7_1).f0))).setCell ⟨gb406, 1, none⟩ (.int .i64 ((rd_T103 l0 x7_1).f1)))).cell? _ = some _ from hx409_1)); clear hn409_0; clear hn409_1; replace p409 := eq_true p409; replace q409 := eq_true q409)); try go_wp2_with (first | ((with_reducible refine gate_dst (N := 4) rfl ?_); refine be_ (N := 4) (cs := #[.int .i64 0, .int .i64 0]) (t := 103) ?_; intro gb406 hg w16 hbox hb; have BK406 := ak_ hbox; have GW406 := ak_ ((gs_ hg : w.heap.size ≤ gb406)); have GE406 := ak_ ((gs_ hg : w.heap.size ≤ gb406)); replace HB := ak_ (below_step hb_ hb); clear hb hbox hg; obtain ⟨hcz17_0, hcz17_1, hfz17_0, hfz17_1⟩ := bc2_ BK406.out) | (go_at_call 67; (with_reducible refine (impl_isTick.calls ((rd_T103 l0 x7_1).f0) true _ A5.out).mono ?_); rintro e w' ⟨rfl, ⟨nd, rfl⟩⟩; (try first | exact ⟨rfl, _, World.drewN_drewN _ _ _⟩ | exact ⟨rfl, _, Eq.trans (World.drewN_drewN _ _ _) (congrArg (World.drewN _) (Nat.add_assoc _ _ _))⟩)) | (go_at_call 82; (with_reducible refine (impl_in.calls ((rd_T103 l0 x7_1).f1) (-1000) 1000 true _ A7.out).mono ?_); rintro e w' ⟨rfl, ⟨nd, rfl⟩⟩; (try first | exact ⟨rfl, _, World.drewN_drewN _ _ _⟩ | exact ⟨rfl, _, Eq.trans (World.drewN_drewN _ _ _) (congrArg (World.drewN _) (Nat.add_assoc _ _ _))⟩); have p409 : 0 ≤ ((ji10) : Int) := of_decide_eq_true (by first | (with_reducible assumption) | assumption); have q409 : (ji10) < (l0.length : Int) := of_decide_eq_true (by first | (with_reducible assumption) | assumption); obtain ⟨ad409, e409, hx409_0, hx409_1⟩ := at_T103 HR0.out (ji10) p409 q409; obtain rfl : ad405 = ad409 := (by injection e409); have hn409_0 : ad405.block ≠ gb406 := Nat.ne_of_lt (Nat.lt_of_lt_of_le (by have := World.block_lt_of_cell? _ _ hx409_0; first | rwa [add_block] at this | exact this) GW406.out); have hn409_1 : ad405.block ≠ gb406 := Nat.ne_of_lt (Nat.lt_of_lt_of_le (by have := World.block_lt_of_cell? _ _ hx409_0; first | rwa [add_block] at this | exact this) GW406.out); replace hx409_0 := cx_ HB hx409_0; replace hx409_1 := cx_ HB hx409_1; replace hx409_0 := (cell_far (p := ⟨gb406, 0, none⟩) (by first | (rw [add_block]; exact hn409_0) | (show (Addr.add _ _).block ≠ _; rw [add_block]; exact hn409_0) | exact hn409_0) (.int .i64 ((rd_T103 l0 x7_1).f0))).trans hx409_0; replace hx409_1 := (cell_far (p := ⟨gb406, 0, none⟩) (by first | (rw [add_block]; exact hn409_0) | (show (Addr.add _ _).block ≠ _; rw [add_block]; exact hn409_0) | exact hn409_0) (.int .i64 ((rd_T103 l0 x7_1).f0))).trans hx409_1; replace hx409_0 := (cell_far (p := ⟨gb406, 1, none⟩) (by first | (rw [add_block]; exact hn409_1) | (show (Addr.add _ _).block ≠ _; rw [add_block]; exact hn409_1) | exact hn409_1) (.int .i64 ((rd_T103 l0 x7_1).f1))).trans hx409_0; replace hx409_1 := (cell_far (p := ⟨gb406, 1, none⟩) (by first | (rw [add_block]; exact hn409_1) | (show (Addr.add _ _).block ≠ _; rw [add_block]; exact hn409_1) | exact hn409_1) (.int .i64 ((rd_T103 l0 x7_1).f1))).trans hx409_1; (try have hy409_0 := fun (n_ : Nat) => (show ((((w16.drewN n_).setCell ⟨gb406, 0, none⟩ (.int .i64 ((rd_T103 l0 x7_1).f0))).setCell ⟨gb406, 1, none⟩ (.int .i64 ((rd_T103 l0 x7_1).f1)))).cell? _ = some _ from hx409_0)); (try have hy409_1 := fun (n_ : Nat) => (show ((((w16.drewN n_).setCell ⟨gb406, 0, none⟩ (.int .i64 ((rd_T103 l0 x7_1).f0))).setCell ⟨gb406, 1, none⟩ (.int .i64 ((rd_T103 l0 x7_1).f1)))).cell? _ = some _ from hx409_1)); clear hn409_0; clear hn409_1; replace p409 := eq_true p409; replace q409 := eq_true q409)))
            go_roundg k1
            case measure => have := HK1.out; omega
            case rel => exact ⟨(wrap64 (x7_1 + 1)), (by first | rfl | (simp; done) | (simp [*]; done)), H', ⟨by have := HK1.out; omega⟩, ⟨hb_⟩⟩
          ·rw [if_neg c12] at H
           exact absurd H (by simp)
         ·rw [if_neg c11] at H
          exact absurd H (by simp)
        ·rw [if_neg c9] at H
         have c9b0 : decide (0 < x7_1) = false := decide_eq_false c9
         clear c9
         have H' := ak_ H
         clear H
         have p405 : 0 ≤ (x7_1 : Int) := of_decide_eq_true (by first | (with_reducible assumption) | assumption)
         have q405 : x7_1 < (l0.length : Int) := of_decide_eq_true (by first | (with_reducible assumption) | assumption)
         obtain ⟨ad405, e405, hx405_0, hx405_1⟩ := at_T103 HR0.out x7_1 p405 q405
         cases e405
         replace hx405_0 := cx_ HB hx405_0
         replace hx405_1 := cx_ HB hx405_1
         replace p405 := eq_true p405
         replace q405 := eq_true q405
         go_wp2_with (first | ((with_reducible refine gate_dst (N := 4) rfl ?_); refine be_ (N := 4) (cs := #[.int .i64 0, .int .i64 0]) (t := 103) ?_; intro gb406 hg w18 hbox hb; have BK406 := ak_ hbox; have GW406 := ak_ ((gs_ hg : w.heap.size ≤ gb406)); have GE406 := ak_ ((gs_ hg : w.heap.size ≤ gb406)); replace HB := ak_ (below_step hb_ hb); clear hb hbox hg; obtain ⟨hcz19_0, hcz19_1, hfz19_0, hfz19_1⟩ := bc2_ BK406.out) | (go_at_call 67; (with_reducible refine (impl_isTick.calls ((rd_T103 l0 x7_1).f0) true _ A5.out).mono ?_); rintro e w' ⟨rfl, ⟨nd, rfl⟩⟩; (try first | exact ⟨rfl, _, World.drewN_drewN _ _ _⟩ | exact ⟨rfl, _, Eq.trans (World.drewN_drewN _ _ _) (congrArg (World.drewN _) (Nat.add_assoc _ _ _))⟩)) | (go_at_call 82; (with_reducible refine (impl_in.calls ((rd_T103 l0 x7_1).f1) (-1000) 1000 true _ A7.out).mono ?_); rintro e w' ⟨rfl, ⟨nd, rfl⟩⟩; (try first | exact ⟨rfl, _, World.drewN_drewN _ _ _⟩ | exact ⟨rfl, _, Eq.trans (World.drewN_drewN _ _ _) (congrArg (World.drewN _) (Nat.add_assoc _ _ _))⟩)))
         repeat (go_quiet (first | ((with_reducible refine gate_dst (N := 4) rfl ?_); refine be_ (N := 4) (cs := #[.int .i64 0, .int .i64 0]) (t := 103) ?_; intro gb406 hg w18 hbox hb; have BK406 := ak_ hbox; have GW406 := ak_ ((gs_ hg : w.heap.size ≤ gb406)); have GE406 := ak_ ((gs_ hg : w.heap.size ≤ gb406)); replace HB := ak_ (below_step hb_ hb); clear hb hbox hg; obtain ⟨hcz19_0, hcz19_1, hfz19_0, hfz19_1⟩ := bc2_ BK406.out) | (go_at_call 67; (with_reducible refine (impl_isTick.calls ((rd_T103 l0 x7_1).f0) true _ A5.out).mono ?_); rintro e w' ⟨rfl, ⟨nd, rfl⟩⟩; (try first | exact ⟨rfl, _, World.drewN_drewN _ _ _⟩ | exact ⟨rfl, _, Eq.trans (World.drewN_drewN _ _ _) (congrArg (World.drewN _) (Nat.add_assoc _ _ _))⟩)) | (go_at_call 82; (with_reducible refine (impl_in.calls ((rd_T103 l0 x7_1).f1) (-1000) 1000 true _ A7.out).mono ?_); rintro e w' ⟨rfl, ⟨nd, rfl⟩⟩; (try first | exact ⟨rfl, _, World.drewN_drewN _ _ _⟩ | exact ⟨rfl, _, Eq.trans (World.drewN_drewN _ _ _) (congrArg (World.drewN _) (Nat.add_assoc _ _ _))⟩))); try go_wp2_with (first | ((with_reducible refine gate_dst (N := 4) rfl ?_); refine be_ (N := 4) (cs := #[.int .i64 0, .int .i64 0]) (t := 103) ?_; intro gb406 hg w18 hbox hb; have BK406 := ak_ hbox; have GW406 := ak_ ((gs_ hg : w.heap.size ≤ gb406)); have GE406 := ak_ ((gs_ hg : w.heap.size ≤ gb406)); replace HB := ak_ (below_step hb_ hb); clear hb hbox hg; obtain ⟨hcz19_0, hcz19_1, hfz19_0, hfz19_1⟩ := bc2_ BK406.out) | (go_at_call 67; (with_reducible refine (impl_isTick.calls ((rd_T103 l0 x7_1).f0) true _ A5.out).mono ?_); rintro e w' ⟨rfl, ⟨nd, rfl⟩⟩; (try first | exact ⟨rfl, _, World.drewN_drewN _ _ _⟩ | exact ⟨rfl, _, Eq.trans (World.drewN_drewN _ _ _) (congrArg (World.drewN _) (Nat.add_assoc _ _ _))⟩)) | (go_at_call 82; (with_reducible refine (impl_in.calls ((rd_T103 l0 x7_1).f1) (-1000) 1000 true _ A7.out).mono ?_); rintro e w' ⟨rfl, ⟨nd, rfl⟩⟩; (try first | exact ⟨rfl, _, World.drewN_drewN _ _ _⟩ | exact ⟨rfl, _, Eq.trans (World.drewN_drewN _ _ _) (congrArg (World.drewN _) (Nat.add_assoc _ _ _))⟩))))
         go_roundg k1
         case measure => have := HK1.out; omega
         case rel => exact ⟨(wrap64 (x7_1 + 1)), (by first | rfl | (simp; done) | (simp [*]; done)), H', ⟨by have := HK1.out; omega⟩, ⟨hb_⟩⟩
       ·replace c8 := Bool.eq_false_iff.mpr c8
        subst c8
        rw [if_neg (show ¬ (false = true) by decide)] at H
        obtain rfl := Option.some.inj H
        have p405 : 0 ≤ (x7_1 : Int) := of_decide_eq_true (by first | (with_reducible assumption) | assumption)
        have q405 : x7_1 < (l0.length : Int) := of_decide_eq_true (by first | (with_reducible assumption) | assumption)
        obtain ⟨ad405, e405, hx405_0, hx405_1⟩ := at_T103 HR0.out x7_1 p405 q405
        cases e405
        replace hx405_0 := cx_ HB hx405_0
        replace hx405_1 := cx_ HB hx405_1
        replace p405 := eq_true p405
        replace q405 := eq_true q405
        go_wp2_with (first | ((with_reducible refine gate_dst (N := 4) rfl ?_); refine be_ (N := 4) (cs := #[.int .i64 0, .int .i64 0]) (t := 103) ?_; intro gb406 hg w20 hbox hb; have BK406 := ak_ hbox; have GW406 := ak_ ((gs_ hg : w.heap.size ≤ gb406)); have GE406 := ak_ ((gs_ hg : w.heap.size ≤ gb406)); replace HB := ak_ (below_step hb_ hb); clear hb hbox hg; obtain ⟨hcz21_0, hcz21_1, hfz21_0, hfz21_1⟩ := bc2_ BK406.out) | (go_at_call 67; (with_reducible refine (impl_isTick.calls ((rd_T103 l0 x7_1).f0) true _ A5.out).mono ?_); rintro e w' ⟨rfl, ⟨nd, rfl⟩⟩; (try first | exact ⟨rfl, _, World.drewN_drewN _ _ _⟩ | exact ⟨rfl, _, Eq.trans (World.drewN_drewN _ _ _) (congrArg (World.drewN _) (Nat.add_assoc _ _ _))⟩)) | (go_at_call 82; (with_reducible refine (impl_in.calls ((rd_T103 l0 x7_1).f1) (-1000) 1000 false _ A7.out).mono ?_); rintro e w' ⟨rfl, ⟨nd, rfl⟩⟩; (try first | exact ⟨rfl, _, World.drewN_drewN _ _ _⟩ | exact ⟨rfl, _, Eq.trans (World.drewN_drewN _ _ _) (congrArg (World.drewN _) (Nat.add_assoc _ _ _))⟩)))
        repeat (go_quiet (first | ((with_reducible refine gate_dst (N := 4) rfl ?_); refine be_ (N := 4) (cs := #[.int .i64 0, .int .i64 0]) (t := 103) ?_; intro gb406 hg w20 hbox hb; have BK406 := ak_ hbox; have GW406 := ak_ ((gs_ hg : w.heap.size ≤ gb406)); have GE406 := ak_ ((gs_ hg : w.heap.size ≤ gb406)); replace HB := ak_ (below_step hb_ hb); clear hb hbox hg; obtain ⟨hcz21_0, hcz21_1, hfz21_0, hfz21_1⟩ := bc2_ BK406.out) | (go_at_call 67; (with_reducible refine (impl_isTick.calls ((rd_T103 l0 x7_1).f0) true _ A5.out).mono ?_); rintro e w' ⟨rfl, ⟨nd, rfl⟩⟩; (try first | exact ⟨rfl, _, World.drewN_drewN _ _ _⟩ | exact ⟨rfl, _, Eq.trans (World.drewN_drewN _ _ _) (congrArg (World.drewN _) (Nat.add_assoc _ _ _))⟩)) | (go_at_call 82; (with_reducible refine (impl_in.calls ((rd_T103 l0 x7_1).f1) (-1000) 1000 false _ A7.out).mono ?_); rintro e w' ⟨rfl, ⟨nd, rfl⟩⟩; (try first | exact ⟨rfl, _, World.drewN_drewN _ _ _⟩ | exact ⟨rfl, _, Eq.trans (World.drewN_drewN _ _ _) (congrArg (World.drewN _) (Nat.add_assoc _ _ _))⟩))); try go_wp2_with (first | ((with_reducible refine gate_dst (N := 4) rfl ?_); refine be_ (N := 4) (cs := #[.int .i64 0, .int .i64 0]) (t := 103) ?_; intro gb406 hg w20 hbox hb; have BK406 := ak_ hbox; have GW406 := ak_ ((gs_ hg : w.heap.size ≤ gb406)); have GE406 := ak_ ((gs_ hg : w.heap.size ≤ gb406)); replace HB := ak_ (below_step hb_ hb); clear hb hbox hg; obtain ⟨hcz21_0, hcz21_1, hfz21_0, hfz21_1⟩ := bc2_ BK406.out) | (go_at_call 67; (with_reducible refine (impl_isTick.calls ((rd_T103 l0 x7_1).f0) true _ A5.out).mono ?_); rintro e w' ⟨rfl, ⟨nd, rfl⟩⟩; (try first | exact ⟨rfl, _, World.drewN_drewN _ _ _⟩ | exact ⟨rfl, _, Eq.trans (World.drewN_drewN _ _ _) (congrArg (World.drewN _) (Nat.add_assoc _ _ _))⟩)) | (go_at_call 82; (with_reducible refine (impl_in.calls ((rd_T103 l0 x7_1).f1) (-1000) 1000 false _ A7.out).mono ?_); rintro e w' ⟨rfl, ⟨nd, rfl⟩⟩; (try first | exact ⟨rfl, _, World.drewN_drewN _ _ _⟩ | exact ⟨rfl, _, Eq.trans (World.drewN_drewN _ _ _) (congrArg (World.drewN _) (Nat.add_assoc _ _ _))⟩))))
        go_ret
        exact ⟨ew_, hb_⟩
      ·replace c6 := Bool.eq_false_iff.mpr c6
       subst c6
       rw [if_neg (show ¬ (false = true) by decide)] at H
       obtain rfl := Option.some.inj H
       have p405 : 0 ≤ (x7_1 : Int) := of_decide_eq_true (by first | (with_reducible assumption) | assumption)
       have q405 : x7_1 < (l0.length : Int) := of_decide_eq_true (by first | (with_reducible assumption) | assumption)
       obtain ⟨ad405, e405, hx405_0, hx405_1⟩ := at_T103 HR0.out x7_1 p405 q405
       cases e405
       replace hx405_0 := cx_ HB hx405_0
       replace hx405_1 := cx_ HB hx405_1
       replace p405 := eq_true p405
       replace q405 := eq_true q405
       go_wp2_with (first | ((with_reducible refine gate_dst (N := 4) rfl ?_); refine be_ (N := 4) (cs := #[.int .i64 0, .int .i64 0]) (t := 103) ?_; intro gb406 hg w22 hbox hb; have BK406 := ak_ hbox; have GW406 := ak_ ((gs_ hg : w.heap.size ≤ gb406)); have GE406 := ak_ ((gs_ hg : w.heap.size ≤ gb406)); replace HB := ak_ (below_step hb_ hb); clear hb hbox hg; obtain ⟨hcz23_0, hcz23_1, hfz23_0, hfz23_1⟩ := bc2_ BK406.out) | (go_at_call 67; (with_reducible refine (impl_isTick.calls ((rd_T103 l0 x7_1).f0) false _ A5.out).mono ?_); rintro e w' ⟨rfl, ⟨nd, rfl⟩⟩; (try first | exact ⟨rfl, _, World.drewN_drewN _ _ _⟩ | exact ⟨rfl, _, Eq.trans (World.drewN_drewN _ _ _) (congrArg (World.drewN _) (Nat.add_assoc _ _ _))⟩)))
       repeat (go_quiet (first | ((with_reducible refine gate_dst (N := 4) rfl ?_); refine be_ (N := 4) (cs := #[.int .i64 0, .int .i64 0]) (t := 103) ?_; intro gb406 hg w22 hbox hb; have BK406 := ak_ hbox; have GW406 := ak_ ((gs_ hg : w.heap.size ≤ gb406)); have GE406 := ak_ ((gs_ hg : w.heap.size ≤ gb406)); replace HB := ak_ (below_step hb_ hb); clear hb hbox hg; obtain ⟨hcz23_0, hcz23_1, hfz23_0, hfz23_1⟩ := bc2_ BK406.out) | (go_at_call 67; (with_reducible refine (impl_isTick.calls ((rd_T103 l0 x7_1).f0) false _ A5.out).mono ?_); rintro e w' ⟨rfl, ⟨nd, rfl⟩⟩; (try first | exact ⟨rfl, _, World.drewN_drewN _ _ _⟩ | exact ⟨rfl, _, Eq.trans (World.drewN_drewN _ _ _) (congrArg (World.drewN _) (Nat.add_assoc _ _ _))⟩))); try go_wp2_with (first | ((with_reducible refine gate_dst (N := 4) rfl ?_); refine be_ (N := 4) (cs := #[.int .i64 0, .int .i64 0]) (t := 103) ?_; intro gb406 hg w22 hbox hb; have BK406 := ak_ hbox; have GW406 := ak_ ((gs_ hg : w.heap.size ≤ gb406)); have GE406 := ak_ ((gs_ hg : w.heap.size ≤ gb406)); replace HB := ak_ (below_step hb_ hb); clear hb hbox hg; obtain ⟨hcz23_0, hcz23_1, hfz23_0, hfz23_1⟩ := bc2_ BK406.out) | (go_at_call 67; (with_reducible refine (impl_isTick.calls ((rd_T103 l0 x7_1).f0) false _ A5.out).mono ?_); rintro e w' ⟨rfl, ⟨nd, rfl⟩⟩; (try first | exact ⟨rfl, _, World.drewN_drewN _ _ _⟩ | exact ⟨rfl, _, Eq.trans (World.drewN_drewN _ _ _) (congrArg (World.drewN _) (Nat.add_assoc _ _ _))⟩))))
       go_ret
       exact ⟨ew_, hb_⟩
     ·rw [if_neg c4] at H
      exact absurd H (by simp)
    ·rw [if_neg c3] at H
     exact absurd H (by simp)
   ·rw [if_neg c2] at H
    have c2b0 : decide (x7_1 < (l0.length : Int)) = false := decide_eq_false c2
    clear c2
    obtain rfl := Option.some.inj H
    go_wp2
    repeat (go_quiet (fail); try go_wp2)
    go_ret
    exact ⟨ew_, hb_⟩

end Go.Proofs.Ytfjjlipfjddaiaa.Bo
