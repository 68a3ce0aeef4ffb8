-- PRINTED by print.py (a twelfth state) out of the translation. Not trusted: Lean checks it.
import Derived.Test.YtfjjlipfjddaiaaU0
import Derived.Test.YtfjjlipfjddaiaaU28
namespace Go.Proofs.Ytfjjlipfjddaiaa.U
open Go.RowKit Go.Proofs.YtfjjlipfjddaiaaW.PrintWords Go.Proofs.YtfjjlipfjddaiaaW.PrintLast Go.Proofs.YtfjjlipfjddaiaaW.PrintMore
attribute [local go_sem] max2_int min2_int max_two min_two max_three min_three max_four min_four   -- for this text's walks alone
set_option linter.unusedVariables false
set_option linter.unusedSimpArgs false

/-! ### impl_LongestWindow: function 46 -/
def lwSt (l : List S96) (x : Int) (i : Nat) : Int := if x < (rd_T96 l i).f2 then (rd_T96 l i).f2 else x
def lwMx (l : List S96) (x : Int) : Int := (List.range' 0 l.length).foldl (lwSt l) x
def impl_LongestWindow.f (k : Nat) (l0_0 : List (S96)) (a0_1 : Int) (a0_2 : Int) (l0_3 : List (S96)) (a0_4 : Int) (a0_5 : Int) (a0_6 : Int) (a0_7 : Int) : Option (Int) := (impl_BehaveOk.f k l0_0 a0_1 a0_2 l0_3 a0_4 a0_5 a0_6 a0_7).bind fun t => if t = true then some (lwMx l0_3 (lwMx l0_0 (if a0_2 < a0_5 then a0_5 else a0_2))) else some (-1)
theorem impl_LongestWindow.mono : ∀ a0 a1 a2 a3 a4 a5 a6 a7 k, LeO (impl_LongestWindow.f k a0 a1 a2 a3 a4 a5 a6 a7) (impl_LongestWindow.f (k + 1) a0 a1 a2 a3 a4 a5 a6 a7) := by
  intro a0 a1 a2 a3 a4 a5 a6 a7 k
  unfold impl_LongestWindow.f
  repeat' with_reducible first | exact impl_BehaveOk.mono _ _ _ _ _ _ _ _ _ | exact LeO.refl _ | exact LeO.none _ | refine LeO.ite ?_ ?_ | refine LeO.bind ?_ (fun _ => ?_)
theorem lw_step (l : List S96) (x : Int) (j : Nat) : (List.range' 0 (j + 1)).foldl (lwSt l) x = lwSt l ((List.range' 0 j).foldl (lwSt l) x) j := by
  rw [List.range'_concat, List.foldl_append]; simp
theorem wrs_ {i n : Nat} (h : i < n) (hn : n ≤ 9223372036854775807) : wrap64 ((i : Int) + 1) = ((i + 1 : Nat) : Int) := by
  unfold wrap64; omega
set_option maxHeartbeats 8000000 in
set_option maxRecDepth 100000 in
theorem impl_LongestWindow.calls (k : Nat) (A0_0 : Option Addr) (c0_0 : Nat) (l0_0 : List (S96)) (a0_1 : Int) (a0_2 : Int) (A0_3 : Option Addr) (c0_3 : Nat) (l0_3 : List (S96)) (a0_4 : Int) (a0_5 : Int) (a0_6 : Int) (a0_7 : Int) (r : Int) (w : World) (hr0_0 : Kd.C k96 w A0_0 l0_0.length l0_0) (hc0_0 : l0_0.length ≤ c0_0) (hr0_3 : Kd.C k96 w A0_3 l0_3.length l0_3) (hc0_3 : l0_3.length ≤ c0_3) (h : impl_LongestWindow.f k l0_0 a0_1 a0_2 l0_3 a0_4 a0_5 a0_6 a0_7 = some r) :
    Calls Try.prog 46 #[.agg #[.slice A0_0 l0_0.length c0_0, .int .i64 a0_1, .int .i64 a0_2, .slice A0_3 l0_3.length c0_3, .int .i64 a0_4, .int .i64 a0_5, .int .i64 a0_6, .int .i64 a0_7]] w fun e w' => e = .returned (.int .i64 r) ∧ Below w.heap.size w w' := by
  have hu33 := Try.underlying33
  have hu35 := Try.underlying35
  have hu96 := Try.underlying96
  have HR0 := Aside0.mk hr0_0
  have HC0 := Aside0.mk hc0_0
  have HR3 := Aside0.mk hr0_3
  have HC3 := Aside0.mk hc0_3
  clear hr0_0 hc0_0 hr0_3 hc0_3
  have HB := Aside0.mk (Below.refl w.heap.size w)
  unfold impl_LongestWindow.f at h
  obtain ⟨t, A1, H⟩ := Option.bind_eq_some_iff.mp h
  clear h
  have A4 := Aside0.mk A1
  clear A1
  cases t with
  | false =>
    rw [if_neg (by decide)] at H
    obtain rfl := Option.some.inj H
    clear H
    go_enter Try.func46, Try.ntmps46
    go_wp2_with (first | ((with_reducible refine gate_dst (N := 1) rfl ?_); refine be_ (N := 1) (cs := #[.slice A0_0 l0_0.length c0_0, .int .i64 a0_1, .int .i64 a0_2, .slice A0_3 l0_3.length c0_3, .int .i64 a0_4, .int .i64 a0_5, .int .i64 a0_6, .int .i64 a0_7]) (t := 35) ?_; intro gb hg w2 hbox hb; have BK := ak_ hbox; have GE := ak_ ((gs_ hg : w.heap.size ≤ gb)); replace HB := ak_ (below_step hb_ hb); clear hb hbox hg; obtain ⟨hcz0, hcz1, hcz2, hcz3, hcz4, hcz5, hcz6, hcz7, hfz0, hfz1, hfz2, hfz3, hfz4, hfz5, hfz6, hfz7⟩ := bc8_ BK.out) | (go_at_call 43; (with_reducible refine (impl_BehaveOk.calls k _ _ l0_0 a0_1 a0_2 _ _ l0_3 a0_4 a0_5 a0_6 a0_7 false _ ?side1 ?side2 ?side3 ?side4 A4.out).mono ?_); (case side1 => exact kc_ HR0); (case side2 => exact HC0.out); (case side3 => exact kc_ HR3); (case side4 => exact HC3.out); rintro e w10 ⟨rfl, hb⟩; replace BK := ak_ (blk_below (bk_ BK) hb); replace HB := ak_ (below_step hb_ hb); clear hb))
    go_ret
    exact ⟨ew_, hb_⟩
  | true =>
    rw [if_pos rfl] at H
    obtain rfl := Option.some.inj H
    clear H
    generalize hm0 : (if a0_2 < a0_5 then a0_5 else a0_2) = m0
    have HM := Aside0.mk hm0
    clear hm0
    go_enter Try.func46, Try.ntmps46
    go_wp2_with (first | ((with_reducible refine gate_dst (N := 1) rfl ?_); refine be_ (N := 1) (cs := #[.slice A0_0 l0_0.length c0_0, .int .i64 a0_1, .int .i64 a0_2, .slice A0_3 l0_3.length c0_3, .int .i64 a0_4, .int .i64 a0_5, .int .i64 a0_6, .int .i64 a0_7]) (t := 35) ?_; intro gb hg w2 hbox hb; have BK := ak_ hbox; have GE := ak_ ((gs_ hg : w.heap.size ≤ gb)); replace HB := ak_ (below_step hb_ hb); clear hb hbox hg; obtain ⟨hcz0, hcz1, hcz2, hcz3, hcz4, hcz5, hcz6, hcz7, hfz0, hfz1, hfz2, hfz3, hfz4, hfz5, hfz6, hfz7⟩ := bc8_ BK.out) | (go_at_call 43; (with_reducible refine (impl_BehaveOk.calls k _ _ l0_0 a0_1 a0_2 _ _ l0_3 a0_4 a0_5 a0_6 a0_7 true _ ?side1 ?side2 ?side3 ?side4 A4.out).mono ?_); (case side1 => exact kc_ HR0); (case side2 => exact HC0.out); (case side3 => exact kc_ HR3); (case side4 => exact HC3.out); rintro e w10 ⟨rfl, hb⟩; replace BK := ak_ (blk_below (bk_ BK) hb); replace HB := ak_ (below_step hb_ hb); clear hb; obtain ⟨hcz0, hcz1, hcz2, hcz3, hcz4, hcz5, hcz6, hcz7, hfz0, hfz1, hfz2, hfz3, hfz4, hfz5, hfz6, hfz7⟩ := bc8_ BK.out))
    all_goals (
      have HB1 := ak_ (below_alloc HB.out (.cells #[.slice A0_0 l0_0.length c0_0, .int .i64 a0_1, .int .i64 a0_2, .slice A0_3 l0_3.length c0_3, .int .i64 a0_4, .int .i64 a0_5] 33))
      have BKA := ak_ (blk_new w10 (.cells #[.slice A0_0 l0_0.length c0_0, .int .i64 a0_1, .int .i64 a0_2, .slice A0_3 l0_3.length c0_3, .int .i64 a0_4, .int .i64 a0_5] 33))
      have GA := ak_ (below_size HB.out)
      clear HB
      have HB := HB1
      clear HB1 hcz0 hcz1 hcz2 hcz3 hcz4 hcz5 hcz6 hcz7 hfz0 hfz1 hfz2 hfz3 hfz4 hfz5 hfz6 hfz7
      generalize hga : w10.heap.size = ga at BKA GA ⊢)
    all_goals clear hga
    all_goals (
      go_loopg [3, 24] 2 (fun gg v3 v24 w' => Aside0 (Below w.heap.size w w') ∧ Aside0 (w'.heap[ga]? = some (.cells #[.slice A0_0 l0_0.length c0_0, .int .i64 a0_1, .int .i64 a0_2, .slice A0_3 l0_3.length c0_3, .int .i64 a0_4, .int .i64 a0_5] 33 (0, 0))) ∧ ((v24 = .int .i64 0 ∧ v3 = .int .i64 m0 ∧ Aside0 (2 ≤ gg)) ∨ (v24 = .int .i64 1 ∧ v3 = .int .i64 (lwMx l0_0 m0) ∧ Aside0 (1 ≤ gg)) ∨ (v24 = .int .i64 2 ∧ v3 = .int .i64 (lwMx l0_3 (lwMx l0_0 m0)))))
      case atStart => exact ⟨⟨hb_⟩, ⟨BKA.out⟩, .inl ⟨rfl, by rw [← HM.out]; first | rw [if_pos (by assumption)] | rw [if_neg (by omega)], ⟨Nat.le_refl _⟩⟩⟩
      case round =>
        clear HB BKA
        obtain ⟨HB, BKA, hx⟩ := hrel
        obtain ⟨hcz0, hcz1, hcz2, hcz3, hcz4, hcz5, hfz0, hfz1, hfz2, hfz3, hfz4, hfz5⟩ := bc6_ BKA.out
        rcases hx with ⟨rfl, rfl, HG⟩ | ⟨rfl, rfl, HG⟩ | ⟨rfl, rfl⟩
        · go_wp2_with (first | ((with_reducible refine gate_dst (N := 5) rfl ?_); refine be_ (N := 5) (cs := #[.slice none 0 0, .int .i64 0, .int .i64 0]) (t := 33) ?_; intro gs hg w3 hbox hb; have BKS := ak_ hbox; have GE2 := ak_ ((gs_ hg : w.heap.size ≤ gs)); have NB1 := ak_ (nl_ hg (bk_ BKA)); have NB2 := ak_ (ng_ hg (bk_ BKA)); replace BKA := ak_ (blk_below (bk_ BKA) hb); replace HB := ak_ (below_step hb_ hb); clear hb hbox hg; have hnb := NB1.out; have hnc := NB2.out; obtain ⟨hcz0, hcz1, hcz2, hcz3, hcz4, hcz5, hfz0, hfz1, hfz2, hfz3, hfz4, hfz5⟩ := bc6_ BKA.out; obtain ⟨hs0, hs1, hs2, hf0, hf1, hf2⟩ := bc3_ BKS.out))
          go_loopg [3, 31] l0_0.length (fun gi v3 v31 wr => ∃ j : Nat, v31 = .int .i64 (j : Int) ∧ v3 = .int .i64 ((List.range' 0 j).foldl (lwSt l0_0) m0) ∧ Aside0 (j ≤ l0_0.length ∧ l0_0.length - j ≤ gi) ∧ Aside0 (Below w.heap.size w wr) ∧ Aside0 (wr.heap[ga]? = some (.cells #[.slice A0_0 l0_0.length c0_0, .int .i64 a0_1, .int .i64 a0_2, .slice A0_3 l0_3.length c0_3, .int .i64 a0_4, .int .i64 a0_5] 33 (0, 0))))
          case atStart => exact ⟨0, rfl, rfl, ⟨Nat.zero_le _, by omega⟩, ⟨hb_⟩, ⟨bk_ BKA⟩⟩
          case round =>
            clear HB BKA BKS GE2 NB1 NB2 hnb hnc hcz0 hcz1 hcz2 hcz3 hcz4 hcz5 hfz0 hfz1 hfz2 hfz3 hfz4 hfz5 hs0 hs1 hs2 hf0 hf1 hf2
            obtain ⟨j, rfl, rfl, HJ, HB, BKA⟩ := hrel
            by_cases hlt : (j : Int) < (l0_0.length : Int)
            · have p1 : (0 : Int) ≤ (j : Int) := Int.natCast_nonneg j
              obtain ⟨ad, e1, hx0, hx1, hx2⟩ := at_T96 HR0.out (j : Int) p1 hlt
              cases e1
              simp only [Int.toNat_natCast] at hx0 hx1 hx2
              replace hx0 := cx_ HB hx0
              replace hx1 := cx_ HB hx1
              replace hx2 := cx_ HB hx2
              have hL := (HR0.out).2.1
              have hw := wrs_ (show j < l0_0.length by omega) hL
              have HW := Aside0.mk hw
              have es := lw_step l0_0 m0 j
              have ES := Aside0.mk es
              clear es
              generalize (List.range' 0 j).foldl (lwSt l0_0) m0 = x at ES ⊢
              clear hw hL
              have p1' := eq_true p1
              have q1' := eq_true hlt
              have q1b := decide_eq_true hlt
              have HL := Aside0.mk hlt
              clear p1 hlt
              go_wp2_with (first | ((with_reducible refine gate_dst (N := 7) rfl ?_); refine be_ (N := 7) (cs := #[.int .i64 0, .int .i64 0, .int .i64 0]) (t := 96) ?_; intro gp hg w4 hbox hb; have BKP := ak_ hbox; have GE3 := ak_ ((gs_ hg : w.heap.size ≤ gp)); have NB1 := ak_ (nl_ hg (bk_ BKA)); have NB2 := ak_ (ng_ hg (bk_ BKA)); replace hx0 := cx_ ⟨hb⟩ hx0; replace hx1 := cx_ ⟨hb⟩ hx1; replace hx2 := cx_ ⟨hb⟩ hx2; replace BKA := ak_ (blk_below (bk_ BKA) hb); replace HB := ak_ (below_step hb_ hb); clear hb hbox hg; have hnb := NB1.out; have hnc := NB2.out; obtain ⟨hs0, hs1, hs2, hf0, hf1, hf2⟩ := bc3_ BKP.out))
              all_goals (
                go_roundg (l0_0.length - (j + 1))
                case measure => have := HJ.out; have := HL.out; omega
                case rel => exact ⟨j + 1, by rw [HW.out], by rw [ES.out]; unfold lwSt; first | rw [if_pos (by assumption)] | rw [if_neg (by omega)], ⟨by have := HJ.out; have := HL.out; omega⟩, ⟨hb_⟩, ⟨bk_ BKA⟩⟩)
            · have hj : j = l0_0.length := by have := HJ.out; omega
              have q1' := eq_false hlt
              have q1b := decide_eq_false hlt
              subst hj
              go_wp2
              go_roundg 1
              case measure => have := HG.out; omega
              case rel => exact ⟨⟨hb_⟩, ⟨bk_ BKA⟩, .inr (.inl ⟨rfl, rfl, ⟨Nat.le_refl _⟩⟩)⟩
        · go_wp2_with (first | ((with_reducible refine gate_dst (N := 5) rfl ?_); refine be_ (N := 5) (cs := #[.slice none 0 0, .int .i64 0, .int .i64 0]) (t := 33) ?_; intro gs hg w3 hbox hb; have BKS := ak_ hbox; have GE2 := ak_ ((gs_ hg : w.heap.size ≤ gs)); have NB1 := ak_ (nl_ hg (bk_ BKA)); have NB2 := ak_ (ng_ hg (bk_ BKA)); replace BKA := ak_ (blk_below (bk_ BKA) hb); replace HB := ak_ (below_step hb_ hb); clear hb hbox hg; have hnb := NB1.out; have hnc := NB2.out; obtain ⟨hcz0, hcz1, hcz2, hcz3, hcz4, hcz5, hfz0, hfz1, hfz2, hfz3, hfz4, hfz5⟩ := bc6_ BKA.out; obtain ⟨hs0, hs1, hs2, hf0, hf1, hf2⟩ := bc3_ BKS.out))
          go_loopg [3, 31] l0_3.length (fun gi v3 v31 wr => ∃ j : Nat, v31 = .int .i64 (j : Int) ∧ v3 = .int .i64 ((List.range' 0 j).foldl (lwSt l0_3) (lwMx l0_0 m0)) ∧ Aside0 (j ≤ l0_3.length ∧ l0_3.length - j ≤ gi) ∧ Aside0 (Below w.heap.size w wr) ∧ Aside0 (wr.heap[ga]? = some (.cells #[.slice A0_0 l0_0.length c0_0, .int .i64 a0_1, .int .i64 a0_2, .slice A0_3 l0_3.length c0_3, .int .i64 a0_4, .int .i64 a0_5] 33 (0, 0))))
          case atStart => exact ⟨0, rfl, rfl, ⟨Nat.zero_le _, by omega⟩, ⟨hb_⟩, ⟨bk_ BKA⟩⟩
          case round =>
            clear HB BKA BKS GE2 NB1 NB2 hnb hnc hcz0 hcz1 hcz2 hcz3 hcz4 hcz5 hfz0 hfz1 hfz2 hfz3 hfz4 hfz5 hs0 hs1 hs2 hf0 hf1 hf2
            obtain ⟨j, rfl, rfl, HJ, HB, BKA⟩ := hrel
            by_cases hlt : (j : Int) < (l0_3.length : Int)
            · have p1 : (0 : Int) ≤ (j : Int) := Int.natCast_nonneg j
              obtain ⟨ad, e1, hx0, hx1, hx2⟩ := at_T96 HR3.out (j : Int) p1 hlt
              cases e1
              simp only [Int.toNat_natCast] at hx0 hx1 hx2
              replace hx0 := cx_ HB hx0
              replace hx1 := cx_ HB hx1
              replace hx2 := cx_ HB hx2
              have hL := (HR3.out).2.1
              have hw := wrs_ (show j < l0_3.length by omega) hL
              have HW := Aside0.mk hw
              have es := lw_step l0_3 (lwMx l0_0 m0) j
              have ES := Aside0.mk es
              clear es
              generalize (List.range' 0 j).foldl (lwSt l0_3) (lwMx l0_0 m0) = x at ES ⊢
              clear hw hL
              have p1' := eq_true p1
              have q1' := eq_true hlt
              have q1b := decide_eq_true hlt
              have HL := Aside0.mk hlt
              clear p1 hlt
              go_wp2_with (first | ((with_reducible refine gate_dst (N := 7) rfl ?_); refine be_ (N := 7) (cs := #[.int .i64 0, .int .i64 0, .int .i64 0]) (t := 96) ?_; intro gp hg w4 hbox hb; have BKP := ak_ hbox; have GE3 := ak_ ((gs_ hg : w.heap.size ≤ gp)); have NB1 := ak_ (nl_ hg (bk_ BKA)); have NB2 := ak_ (ng_ hg (bk_ BKA)); replace hx0 := cx_ ⟨hb⟩ hx0; replace hx1 := cx_ ⟨hb⟩ hx1; replace hx2 := cx_ ⟨hb⟩ hx2; replace BKA := ak_ (blk_below (bk_ BKA) hb); replace HB := ak_ (below_step hb_ hb); clear hb hbox hg; have hnb := NB1.out; have hnc := NB2.out; obtain ⟨hs0, hs1, hs2, hf0, hf1, hf2⟩ := bc3_ BKP.out))
              all_goals (
                go_roundg (l0_3.length - (j + 1))
                case measure => have := HJ.out; have := HL.out; omega
                case rel => exact ⟨j + 1, by rw [HW.out], by rw [ES.out]; unfold lwSt; first | rw [if_pos (by assumption)] | rw [if_neg (by omega)], ⟨by have := HJ.out; have := HL.out; omega⟩, ⟨hb_⟩, ⟨bk_ BKA⟩⟩)
            · have hj : j = l0_3.length := by have := HJ.out; omega
              have q1' := eq_false hlt
              have q1b := decide_eq_false hlt
              subst hj
              go_wp2
              go_roundg 0
              case measure => have := HG.out; omega
              case rel => exact ⟨⟨hb_⟩, ⟨bk_ BKA⟩, .inr (.inr ⟨rfl, rfl⟩)⟩
        · go_wp2
          go_ret
          exact ⟨ew_, hb_⟩)

end Go.Proofs.Ytfjjlipfjddaiaa.U
