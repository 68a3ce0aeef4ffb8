-- PRINTED by print.py (a twelfth state) out of the translation. Not trusted: Lean checks it.
import Derived.Test.YtblfoelddakelaaH0
namespace Go.Proofs.Ytblfoelddakelaa.H
open Go.RowKit Go.Proofs.YtblfoelddakelaaW.PrintWords Go.Proofs.YtblfoelddakelaaW.PrintLast Go.Proofs.YtblfoelddakelaaW.PrintMore
attribute [local go_sem] max2_int min2_int max_two min_two max_three min_three max_four min_four   -- for this text's walks alone
set_option linter.unusedVariables false
set_option linter.unusedSimpArgs false

/-! ### impl_hasMetric: function 117 -/
theorem rd_mem_T49 (l : List S49) (k : Nat) (h : k < l.length) : rd_T49 l (k : Int) ∈ l := by
  unfold rd_T49
  rw [Int.toNat_natCast, List.getD_eq_getElem?_getD, List.getElem?_eq_getElem h]
  exact List.getElem_mem h
theorem rd_of_mem_T49 {l : List S49} {x : S49} (h : x ∈ l) : ∃ k : Nat, k < l.length ∧ rd_T49 l (k : Int) = x := by
  obtain ⟨k, hk, rfl⟩ := List.getElem_of_mem h
  refine ⟨k, hk, ?_⟩
  unfold rd_T49
  rw [Int.toNat_natCast, List.getD_eq_getElem?_getD, List.getElem?_eq_getElem hk]
  rfl
def impl_hasMetric.f (l0 : List (S49)) (a1_0 : ByteArray) (a1_1 : Int) (a1_2 : Int) : Option (Bool) := some (l0.any fun x => x.f0.toList == a1_0.toList)
set_option maxHeartbeats 4000000 in
theorem impl_hasMetric.one (m : ByteArray) (g1 g2 : Int) (gb : Nat) (xa : ByteArray) (x1 x2 : Int) (w : World) (hblk : w.heap[gb]? = some (.cells #[.string m, .int .i64 g1, .int .i64 g2] 49 (0, 0))) :
    Calls Try.prog 46 #[.agg #[.string xa, .int .i64 x1, .int .i64 x2], .pointer (some ⟨gb, 0, none⟩)] w fun e w' => e = .returned (.bool (xa.toList == m.toList)) ∧ Below w.heap.size w w' := by
  go_enter Try.func46, Try.ntmps46
  go_wp2_with (first | ((with_reducible refine gate_dst (N := 2) rfl ?_); refine box_event ?hg (N := 2) ?hd (cs := #[.string xa, .int .i64 x1, .int .i64 x2]) (t := 49) ?hr ?_; (case hd => rfl); (case hg => rfl); (case hr => first | (go_simp; done) | (go_simp; rfl)); intro gb2 hg w1 hbox hb; have hm0 : w1.cell? ⟨gb, 0, none⟩ = some (.string m) := (blk_cell (blk_below hblk hb) 0).trans rfl; have hx0 : w1.cell? ⟨gb2, 0, none⟩ = some (.string xa) := (blk_cell hbox 0).trans rfl; have hmf := blk_frozen (blk_below hblk hb) 0; have hxf := blk_frozen hbox 0; have hB := Aside0.mk hb; clear hb hbox hblk hg))
  go_ret
  exact ⟨rfl, hB.out⟩
set_option maxHeartbeats 4000000 in
theorem impl_hasMetric.index (A0 : Option Addr) (c0 : Nat) (l0 : List (S49)) (m : ByteArray) (g1 g2 : Int) (gb : Nat) (w : World) (hr0 : Kd.C k49 w A0 l0.length l0) (hblk : w.heap[gb]? = some (.cells #[.string m, .int .i64 g1, .int .i64 g2] 49 (0, 0))) :
    Calls Try.prog 76 #[.slice A0 l0.length c0, .func (.func 46) #[] #[.pointer (some ⟨gb, 0, none⟩)]] w fun e w' => ∃ i : Int, e = .returned (.int .i64 i) ∧ decide (0 ≤ i) = (l0.any fun x => x.f0.toList == m.toList) ∧ Below w.heap.size w w' := by
  have HR0 := Aside0.mk hr0
  have BK := Aside0.mk hblk
  have HL : Aside0 (l0.length ≤ 9223372036854775807) := ⟨hr0.2.1⟩
  clear hr0 hblk
  go_enter Try.func76, Try.ntmps76
  go_wp2
  go_loopg [5, 8] l0.length (fun gg _ s8 wr => ∃ x : Int, s8 = .int .i64 x ∧ Aside0 (0 ≤ x ∧ x ≤ l0.length ∧ l0.length - x ≤ gg) ∧ Aside0 (Below w.heap.size w wr) ∧ Aside0 (∀ j : Nat, (j : Int) < x → ((rd_T49 l0 j).f0.toList == m.toList) = false))
  case atStart => exact ⟨0, rfl, ⟨by omega⟩, ⟨Below.refl _ w⟩, ⟨fun j hj => absurd hj (by omega)⟩⟩
  case round =>
    obtain ⟨x, rfl, HX, HB, AL⟩ := hrel
    by_cases hlt : x < (l0.length : Int)
    · have p1 : 0 ≤ x := HX.out.1
      have hL := HL.out
      obtain ⟨ad, e1, hx0, hx1, hx2⟩ := at_T49 HR0.out x p1 hlt
      cases e1
      replace hx0 := (HB.out.cell (World.block_lt_of_cell? w _ hx0)).trans hx0
      replace hx1 := (HB.out.cell (World.block_lt_of_cell? w _ hx1)).trans hx1
      replace hx2 := (HB.out.cell (World.block_lt_of_cell? w _ hx2)).trans hx2
      have hcall := impl_hasMetric.one m g1 g2 gb (rd_T49 l0 x).f0 (rd_T49 l0 x).f1 (rd_T49 l0 x).f2 wr (blk_below BK.out HB.out)
      have hn : x.toNat < l0.length := by omega
      have hxn : ((x.toNat : Nat) : Int) = x := by omega
      have hw : wrap64 (x + 1) = x + 1 := by unfold wrap64; omega
      have HN := Aside0.mk hn
      have HXN := Aside0.mk hxn
      have HW := Aside0.mk hw
      clear hn hxn hw hL
      have p1' := eq_true p1
      have q1' := eq_true hlt
      have q1b := decide_eq_true hlt
      clear p1
      cases hq : ((rd_T49 l0 x).f0.toList == m.toList) with
      | true =>
        rw [hq] at hcall
        have HQ := Aside0.mk hq
        clear hq
        go_wp2_with (go_at_call 46; refine hcall.mono ?_; rintro e w' ⟨rfl, hb'⟩)
        go_ret
        refine ⟨x, rfl, ?_, below_step HB.out hb'⟩
        rw [decide_eq_true (of_eq_true p1'), eq_comm, List.any_eq_true]
        have := rd_mem_T49 l0 x.toNat HN.out
        rw [HXN.out] at this
        exact ⟨_, this, HQ.out⟩
      | false =>
        rw [hq] at hcall
        have HQ := Aside0.mk hq
        clear hq
        go_wp2_with (go_at_call 46; refine hcall.mono ?_; rintro e w' ⟨rfl, hb'⟩)
        have h1 := HX.out
        go_roundg (l0.length - (x.toNat + 1))
        case measure => omega
        case rel =>
          refine ⟨wrap64 (x + 1), rfl, ⟨by rw [HW.out]; omega⟩, ⟨below_step HB.out hb'⟩, ⟨fun j hj => ?_⟩⟩
          rw [HW.out] at hj
          by_cases e : (j : Int) = x
          · rw [e]
            exact HQ.out
          · exact AL.out j (by omega)
    · have hx : x = l0.length := by have := HX.out; omega
      have q1' := eq_false hlt
      have q1b := decide_eq_false hlt
      have HH := Aside0.mk hx
      clear hx
      go_wp2
      go_ret
      refine ⟨-1, rfl, ?_, HB.out⟩
      rw [decide_eq_false (by omega), eq_comm, List.any_eq_false]
      intro y hy
      obtain ⟨j, hj, rfl⟩ := rd_of_mem_T49 hy
      have := AL.out j (by rw [HH.out]; omega)
      simpa using this
set_option maxHeartbeats 4000000 in
theorem impl_hasMetric.calls (A0 : Option Addr) (c0 : Nat) (l0 : List (S49)) (a1_0 : ByteArray) (a1_1 : Int) (a1_2 : Int) (r : Bool) (w : World) (gb : Nat) (hr0 : Kd.C k49 w A0 l0.length l0) (hc0 : l0.length ≤ c0) (hblk : w.heap[gb]? = some (.cells #[.string a1_0, .int .i64 a1_1, .int .i64 a1_2] 49 (0, 0))) (h : impl_hasMetric.f l0 a1_0 a1_1 a1_2 = some r) :
    Calls Try.prog 45 #[.slice A0 l0.length c0, .func (.func 46) #[] #[.pointer (some ⟨gb, 0, none⟩)]] w fun e w' => e = .returned (.bool r) ∧ Below w.heap.size w w' := by
  have hc := impl_hasMetric.index A0 c0 l0 a1_0 a1_1 a1_2 gb w hr0 hblk
  obtain rfl := Option.some.inj h
  clear h hr0 hc0 hblk
  go_enter Try.func45, Try.ntmps45
  go_wp2_with (go_at_call 76; refine hc.mono ?_; rintro e w' ⟨i, rfl, hi, hb⟩)
  go_ret
  exact ⟨by rw [← hi]; rfl, hb⟩

end Go.Proofs.Ytblfoelddakelaa.H
