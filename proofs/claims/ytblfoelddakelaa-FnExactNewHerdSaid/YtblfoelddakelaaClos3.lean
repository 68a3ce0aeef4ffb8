/- Whole rows: a store of a struct; a row that lies in blocks of another type than the one stored into.
   Conditions: none. -/
import Derived.Test.YtblfoelddakelaaClos2
import Derived.Laws.Tables
import Derived.Laws.CopyOwn
import Derived.Lib.SliceRun
namespace Go.Proofs.YtblfoelddakelaaW.PrintMore
open Go.RowKit Go.Proofs.YtblfoelddakelaaW.PrintWords Go.Proofs.YtblfoelddakelaaW.PrintLast
theorem rt_ {α : Type} {d : Kd α} {e base g t : Nat} {ok : Nat → Prop} {w w1 : World} {v : Value} {xs : List α} {cells : Array Value} (h0 : Aside0 (d.R e w base ok v xs)) (hb : Aside0 (w.heap[g]? = some (.cells cells t (0, 0))))
    (h : d.R e w base (fun k => ok k ∧ k ≠ g) v xs → d.R e w1 base (fun k => ok k ∧ k ≠ g) v xs := by intro h0; with_reducible repeat (first | exact h0 | refine Kd.R_far ?_ (fun _ hk => hk.2) _ | apply Kd.R_alloc | apply Kd.R_drewN | apply Kd.R_drew))
    (ht : ∀ q, q ∈ e :: d.E → q ≠ t := by decide) : d.R e w1 base ok v xs := Kd.R_mono (h (Kd.R_types h0.out hb.out ht)) (fun _ h => h.1)
theorem rts_ {α : Type} {d : Kd α} {e base g t : Nat} {ok : Nat → Prop} {w w1 : World} {v : Value} {xs : List α} {cells : Array Value} (h0 : Aside0 (Kd.S d e w base ok v xs)) (hb : Aside0 (w.heap[g]? = some (.cells cells t (0, 0))))
    (h : Kd.S d e w base (fun k => ok k ∧ k ≠ g) v xs → Kd.S d e w1 base (fun k => ok k ∧ k ≠ g) v xs := by intro h0; with_reducible repeat (first | exact h0 | refine Kd.S_far ?_ (fun _ hk => hk.2) _ | apply Kd.S_alloc | apply Kd.S_drewN | apply Kd.S_drew))
    (ht : ∀ q, q ∈ e :: d.E → q ≠ t := by decide) : Kd.S d e w1 base ok v xs := Kd.S_mono (h (Kd.S_types h0.out hb.out ht)) (fun _ h => h.1)
theorem so_ {α : Type} {d : Kd α} {e base : Nat} {ok : Nat → Prop} {w w1 : World} {v : Value} {xs : List α} (h0 : Aside0 (Kd.S d e w base ok v xs)) (h : Kd.S d e w base ok v xs → Kd.S d e w1 base ok v xs := by intro h0; with_reducible repeat (first | exact h0 | apply Kd.S_alloc | apply Kd.S_drewN | apply Kd.S_drew)) : Kd.S d e w1 base ok v xs := h h0.out
theorem sr_b {W w' : World} {g k : Nat} {o : Obj} (hf : ∀ k, k ≠ g → w'.heap[k]? = W.heap[k]?) (hn : Aside0 (k ≠ g)) (BK : Aside0 (W.heap[k]? = some o)) : Aside0 (w'.heap[k]? = some o) := ⟨(hf k hn.out).trans BK.out⟩
theorem sr_R {α : Type} {d : Kd α} {e base g t : Nat} {ok : Nat → Prop} {W w' : World} {v : Value} {xs : List α} {cells : Array Value} (hf : ∀ k, k ≠ g → w'.heap[k]? = W.heap[k]?) (BK : Aside0 (W.heap[g]? = some (.cells cells t (0, 0)))) (h : d.R e W base ok v xs)
    (ht : ∀ q, q ∈ e :: d.E → q ≠ t := by decide) : Aside0 (d.R e w' base ok v xs) := ⟨Kd.R_mono (Kd.R_step (Kd.R_types h BK.out ht) (fun k hk _ => hf k hk.2)) (fun _ h => h.1)⟩
theorem sr_S {α : Type} {d : Kd α} {e base g t : Nat} {ok : Nat → Prop} {W w' : World} {v : Value} {xs : List α} {cells : Array Value} (hf : ∀ k, k ≠ g → w'.heap[k]? = W.heap[k]?) (BK : Aside0 (W.heap[g]? = some (.cells cells t (0, 0)))) (h : Kd.S d e W base ok v xs)
    (ht : ∀ q, q ∈ e :: d.E → q ≠ t := by decide) : Aside0 (Kd.S d e w' base ok v xs) := ⟨Kd.S_mono (Kd.S_step (Kd.S_types h BK.out ht) (fun k hk _ => hf k hk.2)) (fun _ h => h.1)⟩
theorem st_row_ {P : Program} {ops : Array Oper} {rest : List Oper} {o : Oper} {a : Act} {Q : Exit → Act → World → Prop} {W : World} {t : TypeId} {p : Tmp} {v : Operand} {g : Nat} {cs cs' : Array Value}
    (hgd : o.guard = none) (ho : o.op = .store t (.tmp p) v) (hN : o.dst = none) (BK : Aside0 (W.heap[g]? = some (.cells cs t (0, 0))))
    (hp : a.eval (.tmp p) = .pointer (some ⟨g, 0, none⟩)) (hv : a.eval v = .agg cs') (hi : (P.info? t).map (·.size) = some cs'.size) (hs : cs.size = cs'.size) (h1 : cs'.all (·.oneCell') = true)
    (h : ∀ w', Aside0 (w'.heap[g]? = some (.cells cs' t (0, 0))) → (∀ k, k ≠ g → w'.heap[k]? = W.heap[k]?) → (∀ n w0, Below n w0 W → n ≤ g → Below n w0 w') → wpList P ops Q rest a w') : wpList P ops Q (o :: rest) a W := by
  refine wpList_plain hgd fun K hK => wp_store_row t (.tmp p) v ho g cs' hp hv t cs BK.out hi hs h1 ?_
  have e : a.put o.dst undef = a := by rw [hN]; rfl
  rw [e]
  exact hK _ _ (h _ ⟨setRow_heap _ _ _ _ _ _ BK.out⟩ (fun k hk => setRow_other _ _ _ _ hk) (fun n w0 hb hn => below_setRow hb hn _))
end Go.Proofs.YtblfoelddakelaaW.PrintMore
