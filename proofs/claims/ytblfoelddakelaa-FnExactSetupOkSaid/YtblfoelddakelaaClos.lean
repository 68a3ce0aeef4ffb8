/- A call of a function value that captures nothing: the step of a walk.
   Conditions: none. -/
import Derived.Test.YtblfoelddakelaaVMore
namespace Go.Proofs.YtblfoelddakelaaW.PrintMore
open Go.RowKit Go.Proofs.YtblfoelddakelaaW.PrintWords Go.Proofs.YtblfoelddakelaaW.PrintLast
theorem wr0_ : wrap64 0 = 0 := by unfold wrap64; omega
/- Short names, and the arguments of a call one by one. -/
abbrev ba_ := @below_alloc
abbrev bn_ := @pw_below_drewN
abbrev bd_ := @below_drew1
theorem ca_ {α : Type} {d : Kd α} {w : World} {A : Option Addr} {n : Nat} {xs : List α} {o : Obj} (h : Kd.C d w A n xs) : Kd.C d (w.alloc o) A n xs := Kd.C_alloc h o
theorem cn_ {α : Type} {d : Kd α} {w : World} {A : Option Addr} {n m : Nat} {xs : List α} (h : Kd.C d w A n xs) : Kd.C d (w.drewN m) A n xs := Kd.C_drewN h m
theorem cd_ {α : Type} {d : Kd α} {w : World} {A : Option Addr} {n : Nat} {xs : List α} (h : Kd.C d w A n xs) : Kd.C d w.drew A n xs := Kd.C_drew h
section
variable {α β : Type} {f : α → β} {a b c d e g h i : α} {A B C D E G H I : β}
theorem ma0_ : Array.map f #[] = #[] := by simp
theorem ma1_ (p : f a = A) : Array.map f #[a] = #[A] := by simp [p]
theorem ma2_ (p : f a = A) (q : f b = B) : Array.map f #[a, b] = #[A, B] := by simp [p, q]
theorem ma3_ (p : f a = A) (q : f b = B) (r : f c = C) : Array.map f #[a, b, c] = #[A, B, C] := by simp [p, q, r]
theorem ma4_ (p : f a = A) (q : f b = B) (r : f c = C) (s : f d = D) : Array.map f #[a, b, c, d] = #[A, B, C, D] := by simp [p, q, r, s]
theorem ma5_ (p : f a = A) (q : f b = B) (r : f c = C) (s : f d = D) (t : f e = E) : Array.map f #[a, b, c, d, e] = #[A, B, C, D, E] := by simp [p, q, r, s, t]
theorem ma6_ (p : f a = A) (q : f b = B) (r : f c = C) (s : f d = D) (t : f e = E) (u : f g = G) : Array.map f #[a, b, c, d, e, g] = #[A, B, C, D, E, G] := by simp [p, q, r, s, t, u]
theorem ma7_ (p : f a = A) (q : f b = B) (r : f c = C) (s : f d = D) (t : f e = E) (u : f g = G) (v : f h = H) : Array.map f #[a, b, c, d, e, g, h] = #[A, B, C, D, E, G, H] := by simp [p, q, r, s, t, u, v]
theorem ma8_ (p : f a = A) (q : f b = B) (r : f c = C) (s : f d = D) (t : f e = E) (u : f g = G) (v : f h = H) (x : f i = I) : Array.map f #[a, b, c, d, e, g, h, i] = #[A, B, C, D, E, G, H, I] := by simp [p, q, r, s, t, u, v, x]
end
/-- A call of a function value: the function is entered. -/
theorem goesV_ {P : Program} {ops : Array Oper} {Q : Exit → Act → World → Prop} {rest : List Oper} {oi : Oper} {a : Act} {w : World} (N : Option Tmp) (hd : oi.dst = N) (hg : oi.guard = none) {f : FuncId} {fn : Func} {c : Operand} {as : Array Operand} {ts : Array TypeId} (hf : P.funcs[f]? = some fn) (hname : (fn.name == "runtime.NumGoroutine") = false) (hb : fn.body.isSome = true) (args : Array Value)
    (hop : oi.op = .call { callee := .value c, args := as, argTypes := ts }) (hc : a.eval c = .func (.func f) #[] #[]) (hargs : as.map a.eval = args)
    (h : Calls P f args w fun e w' => ∃ v, e = .returned v ∧ wpList P ops Q rest (a.put N v) w') : wpList P ops Q (oi :: rest) a w := by
  refine wpList_plain hg fun K hK => ?_
  have he := enters_ hf hname hb args w
  have hrun : (execOp a.eval oi).run P w = .ok (.enter f args) w := by
    unfold execOp
    simp [hop, resolve, Deferred.ofValue, invoke, hc, hargs, he]
  unfold Oper.wp
  rw [hrun, Oper.upon_enter]
  refine h.mono fun e w'' hh => ?_
  obtain ⟨v, rfl, hk⟩ := hh
  subst hd
  exact hK _ _ hk
end Go.Proofs.YtblfoelddakelaaW.PrintMore
