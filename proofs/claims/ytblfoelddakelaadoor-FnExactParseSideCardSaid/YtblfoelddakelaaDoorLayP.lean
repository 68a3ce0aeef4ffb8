/- What is known of the library's table of powers of ten and of three of its variables, carried over every walk; a []string's cells.
   Conditions: none. -/
import Derived.Test.YtblfoelddakelaaDoorVMore
import Derived.Test.YtblfoelddakelaaDoorShelfP
import Derived.Lib.LaidTab
import Derived.Sort.Grow
namespace Go.Proofs.YtblfoelddakelaaDoorW.PrintMore
open Go.RowKit Go.Sort Go.Proofs.YtblfoelddakelaaDoorW.PrintWords Go.Proofs.YtblfoelddakelaaDoorW.PrintLast
/-- The table reads as the program's text lays it. -/
def LayT (w : World) : Prop := Lib.TabIs Tryd.prog w "internal/strconv.uint64pow10" .u64 Lib.pow10Tab
theorem layT_at {w w' : World} (h : LayT w) (hb : Below w.heap.size w w') : LayT w' := by
  unfold LayT at h ⊢
  generalize Tryd.prog = P at h ⊢
  cases hg : P.globalNamed "internal/strconv.uint64pow10" with
  | none =>
    unfold Lib.TabIs World.var? at h
    rw [hg] at h
    cases h
  | some g =>
    unfold Lib.TabIs World.var? at h ⊢
    rw [hg, Option.bind_some] at h ⊢
    have hlt : g < w.heap.size := by
      apply Nat.lt_of_not_le
      intro hle
      rw [Array.getElem?_eq_none hle] at h
      cases h
    rw [hb.block g hlt]
    exact h
/-- A cell that holds an interface value. -/
def IfaceAt (w : World) (g : Nat) : Prop := ∃ e, w.cell? ⟨g, 0, none⟩ = some e ∧ (e = .nilIface ∨ ∃ te pe, e = .iface te pe)
theorem ifaceAt_at {w w' : World} {g : Nat} (h : IfaceAt w g) (hb : Below w.heap.size w w') : IfaceAt w' g := by
  obtain ⟨e, h1, h2⟩ := h
  exact ⟨e, (hb.cell (World.block_lt_of_cell? w _ h1)).trans h1, h2⟩
def Lay (w : World) : Prop := LayT w ∧ (∃ m, w.cell? ⟨0, 0, none⟩ = some (.int .i64 m)) ∧ IfaceAt w 1 ∧ IfaceAt w 2
theorem lay_at {w w' : World} (h : Lay w) (hb : Below w.heap.size w w') : Lay w' := by
  obtain ⟨h1, ⟨m, h2⟩, h3, h4⟩ := h
  exact ⟨layT_at h1 hb, ⟨m, (hb.cell (World.block_lt_of_cell? w _ h2)).trans h2⟩, ifaceAt_at h3 hb, ifaceAt_at h4 hb⟩
theorem lay_tab {w : World} (h : Lay w) : Lib.TabIs Tryd.prog w "internal/strconv.uint64pow10" .u64 Lib.pow10Tab := h.1
theorem lay_alloc {w : World} {o : Obj} (h : Lay w) : Lay (w.alloc o) := lay_at h (below_alloc (Below.refl _ _) o)
theorem lay_drew {w : World} (h : Lay w) : Lay w.drew := lay_at h (below_drew (Below.refl _ _))
theorem lay_drewN {w : World} {n : Nat} (h : Lay w) : Lay (w.drewN n) := lay_at h (pw_below_drewN (Below.refl _ _) n)
theorem grow_below {w : World} {k : Nat} {os : Array Obj} : Below w.heap.size w (grow (w.drewN k) os) := by
  refine ⟨rfl, rfl, rfl, by simp [grow], fun j hj => ?_⟩
  show (w.heap ++ os)[j]? = w.heap[j]?
  rw [Array.getElem?_append_left hj]
/-- A []string's cells, as the library's contracts ask for them. -/
theorem strs_at {w : World} {A : Option Addr} {l : List ByteArray} (h : Kd.C Kd.string w A l.length l) (h0 : 0 < l.length) : ∃ bk o, A = some ⟨bk, o, none⟩ ∧ bk < w.heap.size ∧ ∀ (j : Nat) x, l[j]? = some x → w.cell? ⟨bk, o + j, none⟩ = some (.string x) := by
  obtain ⟨ad, e, hc⟩ := h.2.2 h0
  have key : ∀ (j : Nat) x, l[j]? = some x → w.cell? (ad.add j) = some (.string x) := by
    intro j x hx
    obtain ⟨c, _, hK, hcell⟩ := hc j x hx
    have hK' : c = [.string x] := hK
    subst hK'
    have := hcell 0 _ rfl
    have e1 : j * (Kd.string).sz + 0 = j := by show j * 1 + 0 = j; omega
    rwa [e1] at this
  obtain ⟨bk, o, sp⟩ := ad
  have k0 := key 0 _ (List.getElem?_eq_getElem h0)
  have e0 : (⟨bk, o, sp⟩ : Addr).add 0 = ⟨bk, o, sp⟩ := by simp [Addr.add]
  rw [e0] at k0
  have hsp : sp = none := by
    cases sp with
    | none => rfl
    | some s =>
      unfold World.cell? at k0
      split at k0
      · simp at k0
      · cases k0
  subst hsp
  refine ⟨bk, o, e, World.block_lt_of_cell? w _ k0, fun j x hx => ?_⟩
  have := key j x hx
  have ea : (⟨bk, o, none⟩ : Addr).add j = ⟨bk, o + j, none⟩ := by
    unfold Addr.add
    by_cases hj : j = 0 <;> simp [hj]
  rwa [ea] at this
end Go.Proofs.YtblfoelddakelaaDoorW.PrintMore
