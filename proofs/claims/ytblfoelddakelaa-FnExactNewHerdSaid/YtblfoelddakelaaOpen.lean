/- What a call's argument reads as: for the kinds of whole numbers, bools, strings, slices and structs, every value that can be read as data is a value of the kind.
   Conditions: none. -/
import Derived.ChangeArms
import Derived.WideShapes
import Derived.DataReads
import Derived.Test.YtblfoelddakelaaVMore
namespace Go.Proofs.Ytblfoelddakelaa.Op
open Go.RowKit Go.ChangeShapes Go.WideShapes Go.Proofs.YtblfoelddakelaaW.PrintWords

/-- Whatever reads as data at type t is of the kind d, and B holds of it. -/
def Opens (P : Program) (t : TypeId) {α : Type} (d : Kd α) (B : α → Prop) : Prop :=
  ∀ (H : Type) (enc : TypeId × Value → H) (w : World) (base : Nat) (spare : Nat → Bool) (held : Bool) (fuel : Nat) (cs : List Value) (x : DataW H × List MemPlace),
    DataW.trod enc P w base spare held fuel t cs = some x → ∃ a, d.K w a cs ∧ B a

/-- The fields from cell 'off' on. -/
def Seg (P : Program) (off : Nat) (fs : List Field) {α : Type} (d : Kd α) (B : α → Prop) : Prop :=
  ∀ (H : Type) (enc : TypeId × Value → H) (w : World) (base : Nat) (spare : Nat → Bool) (held : Bool) (fuel : Nat) (cs : List Value),
    (∀ f ∈ fs, ∃ x, DataW.trod enc P w base spare held fuel f.type ((cs.drop f.offset).take (P.cellsOf f.type)) = some x) → cs.length = off + d.sz → ∃ a, d.K w a (cs.drop off) ∧ B a

variable {P : Program} {t : TypeId}

theorem opens_int {k : IntKind} (ht : P.underlying t = some (.int k)) : Opens P t (Kd.int k) (fun n => (Lit.int k n).wf = true) := by
  intro H enc w base spare held fuel cs x h
  obtain ⟨n, h1, _, h2⟩ := DataW.trod_int ht h
  exact ⟨n, h1, h2⟩

theorem opens_bool (ht : P.underlying t = some .bool) : Opens P t Kd.bool (fun _ => True) := by
  intro H enc w base spare held fuel cs x h
  obtain ⟨b, h1, _⟩ := DataW.trod_bool ht h
  exact ⟨b, h1, trivial⟩

theorem opens_string (ht : P.underlying t = some .string) : Opens P t Kd.string (fun s => s.size ≤ 9223372036854775807) := by
  intro H enc w base spare held fuel cs x h
  obtain ⟨s, h1, _, h2⟩ := DataW.trod_string ht h
  exact ⟨s, h1, h2⟩

theorem opens_slice {e : TypeId} {e' : Nat} {α : Type} {d : Kd α} {B : α → Prop} (ht : P.underlying t = some (.slice e)) (hC : P.cellsOf e = d.sz) (he : Opens P e d B) :
    Opens P t (Kd.slice e' d) (fun xs => xs.length ≤ 9223372036854775807 ∧ ∀ x ∈ xs, B x) := by
  intro H enc w base spare held fuel cs x h
  rcases DataW.trod_slice ht h with ⟨rfl, _⟩ | ⟨a, len, cap, elems, rest, n, _, rfl, _, hb, hl, hm, hlen, hel, _, _⟩
  · exact ⟨[], ⟨none, 0, rfl, Nat.le_refl _, rfl, Nat.zero_le _, fun h0 => absurd h0 (Nat.lt_irrefl _)⟩, Nat.zero_le _, fun x hx => by simp at hx⟩
  · have hm' : cap ≤ 9223372036854775807 := hm
    have hi : ∀ i : Fin len, ∃ y c, c.length = d.sz ∧ d.K w y c ∧ B y ∧ ∀ j, j < d.sz → w.cell? (a.add (i.val * d.sz + j)) = c[j]? := by
      intro i
      have h1 := hel i.val i.isLt
      rw [List.getElem?_eq_getElem (by rw [hlen]; exact i.isLt), hC] at h1
      obtain ⟨c, hc, h2⟩ := Option.bind_eq_some_iff.1 h1
      obtain ⟨_, hcl, hat⟩ := World.cells?_some hc
      obtain ⟨y, hK, hB⟩ := he H enc w base spare held n c _ h2
      refine ⟨y, c, hcl, hK, hB, fun j hj => ?_⟩
      have h3 := hat j hj
      have ea : (a.add (i.val * d.sz)).add j = a.add (i.val * d.sz + j) := by
        unfold Addr.add
        by_cases hi : i.val * d.sz = 0 <;> by_cases hj : j = 0 <;> simp [hi, hj, Nat.add_assoc]
      rw [ea] at h3
      exact h3
    have hf : ∃ f : Fin len → α, ∀ i, ∃ c, c.length = d.sz ∧ d.K w (f i) c ∧ B (f i) ∧ ∀ j, j < d.sz → w.cell? (a.add (i.val * d.sz + j)) = c[j]? := ⟨fun i => Classical.choose (hi i), fun i => Classical.choose_spec (hi i)⟩
    obtain ⟨f, hf⟩ := hf
    refine ⟨List.ofFn f, ⟨some a, cap, by rw [List.length_ofFn], by rw [List.length_ofFn]; exact hl, ?_⟩, by rw [List.length_ofFn]; omega, ?_⟩
    · rw [List.length_ofFn]
      refine ⟨List.length_ofFn, by omega, fun _ => ⟨a, rfl, fun j p hp => ?_⟩⟩
      have hj : j < len := by
        have := (List.getElem?_eq_some_iff.1 hp).1
        rwa [List.length_ofFn] at this
      obtain ⟨c, hcl, hK, _, hat⟩ := hf ⟨j, hj⟩
      have hp' : f ⟨j, hj⟩ = p := by
        have := (List.getElem?_eq_some_iff.1 hp).2
        rwa [List.getElem_ofFn] at this
      refine ⟨c, hcl, hp' ▸ hK, fun i u hu => ?_⟩
      have hic : i < d.sz := by
        have := (List.getElem?_eq_some_iff.1 hu).1
        omega
      exact (hat i hic).trans hu
    · intro x hx
      obtain ⟨i, rfl⟩ := List.mem_ofFn.1 hx
      obtain ⟨c, _, _, hB, _⟩ := hf i
      exact hB

theorem seg_one {f : Field} {off : Nat} {α : Type} {d : Kd α} {B : α → Prop} (τ : TypeId) (hτ : f.type = τ) (ho : f.offset = off) (hC : P.cellsOf τ = d.sz) (hf : Opens P τ d B) : Seg P off [f] d B := by
  subst hτ
  intro H enc w base spare held fuel cs h hl
  obtain ⟨x, hx⟩ := h f (List.mem_singleton.2 rfl)
  rw [ho, hC, List.take_of_length_le (by rw [List.length_drop]; omega)] at hx
  exact hf H enc w base spare held fuel _ x hx

theorem seg_cons {f : Field} {fs : List Field} {off off' : Nat} {α β : Type} {d : Kd α} {d' : Kd β} {B : α → Prop} {B' : β → Prop} (τ : TypeId) (hτ : f.type = τ) (ho : f.offset = off) (hC : P.cellsOf τ = d.sz) (hn : off + d.sz = off') (hf : Opens P τ d B) (hs : Seg P off' fs d' B') :
    Seg P off (f :: fs) (Kd.pair d d') (fun p => B p.1 ∧ B' p.2) := by
  subst hτ
  intro H enc w base spare held fuel cs h hl
  have hl' : cs.length = off + (d.sz + d'.sz) := hl
  obtain ⟨x, hx⟩ := h f (List.mem_cons_self ..)
  rw [ho, hC] at hx
  obtain ⟨a, ha, hB⟩ := hf H enc w base spare held fuel _ x hx
  obtain ⟨b, hb, hB'⟩ := hs H enc w base spare held fuel cs (fun g hg => h g (List.mem_cons_of_mem _ hg)) (by omega)
  refine ⟨(a, b), ⟨(cs.drop off).take d.sz, cs.drop off', ?_, ha, hb⟩, hB, hB'⟩
  rw [← hn, ← List.drop_drop, List.take_append_drop]

theorem opens_struct {fs : Array Field} {α : Type} {d : Kd α} {B : α → Prop} (ht : P.underlying t = some (.struct fs)) (hC : P.cellsOf t = d.sz) (hs : Seg P 0 fs.toList d B) : Opens P t d B := by
  intro H enc w base spare held fuel cs x h
  obtain ⟨xs, n, _, _, hl, hn, hf⟩ := DataW.trod_struct ht h
  have := hs H enc w base spare held n cs (fun f hm => by
    obtain ⟨i, hi, he⟩ := List.getElem_of_mem hm
    have h1 := hf i f (by rw [← he]; simp)
    have hi' : i < xs.length := by rw [hn]; simpa using hi
    rw [List.getElem?_eq_getElem hi'] at h1
    exact ⟨_, h1⟩) (by omega)
  exact this

theorem opens_iso {α β : Type} {d : Kd α} {B : α → Prop} {f : β → α} (g : α → β) (hg : ∀ a, f (g a) = a) (h : Opens P t d B) : Opens P t (Kd.iso d f) (fun b => B (f b)) := by
  intro H enc w base spare held fuel cs x hx
  obtain ⟨a, ha, hB⟩ := h H enc w base spare held fuel cs x hx
  exact ⟨g a, by show d.K w (f (g a)) cs; rw [hg]; exact ha, by show B (f (g a)); rw [hg]; exact hB⟩

theorem opens_imp {α : Type} {d : Kd α} {B B' : α → Prop} (h : Opens P t d B) (hi : ∀ a, B a → B' a) : Opens P t d B' := by
  intro H enc w base spare held fuel cs x hx
  obtain ⟨a, ha, hB⟩ := h H enc w base spare held fuel cs x hx
  exact ⟨a, ha, hi a hB⟩

theorem agg_of {cs : Array Value} {l : List Value} (h : cs.toList = l) : Value.agg cs = .agg l.toArray := by rw [← h]

end Go.Proofs.Ytblfoelddakelaa.Op
