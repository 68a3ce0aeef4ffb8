/- Copying a Setup gives it; it equals itself; its size.
   Conditions: none. -/
import Derived.Test.YtblfoelddakelaaU13
import Derived.Test.YtblfoelddakelaaU6
import Derived.Test.YtblfoelddakelaaU9
import Derived.Test.YtblfoelddakelaaCvGoal
import Derived.Test.YtblfoelddakelaaCvBehave
namespace Go.Proofs.Ytblfoelddakelaa.Base
open Go.RowKit Go.Proofs.YtblfoelddakelaaW.PrintWords Go.Proofs.YtblfoelddakelaaW.PrintMore Go.Proofs.Ytblfoelddakelaa.U
theorem ev_toSetup (d f w : Int) (g : List S98) (hg : g.length ≤ 1048576) (l : List S132) (hl : l.length ≤ 1048576) (a b : Int) (l' : List S132) (hl' : l'.length ≤ 1048576) (a' b' m n : Int) : Ev (fun k => laws_toSetup.f k d f w g l a b l' a' b' m n) (d, f, w, g.map cvGoal, l.map cvPolicy, a, b, l'.map cvPolicy, a', b', m, n) := by
  unfold laws_toSetup.f laws_toRules.f
  exact Ev.bind0 rfl (Ev.bind (ev_toGoalS g hg) (Ev.bind (ev_toBehave l hl a b l' hl' a' b' m n) (Ev.now _)))
theorem eqRules_self (d f w : Int) : laws_eqRules.f d f w d f w = some true := by
  unfold laws_eqRules.f
  rw [if_pos rfl, if_pos rfl, if_pos rfl]
theorem ev_eqSetup (d f w : Int) (g : List S49) (hg : g.length ≤ 1048576) (l : List S71) (hl : l.length ≤ 1048576) (a b : Int) (l' : List S71) (hl' : l'.length ≤ 1048576) (a' b' m n : Int) : Ev (fun k => laws_eqSetup.f k d f w g l a b l' a' b' m n d f w g l a b l' a' b' m n) true := by
  unfold laws_eqSetup.f
  refine Ev.bind0 (eqRules_self d f w) (Ev.pos rfl (Ev.bind (ev_eqGoalS g hg) (Ev.pos rfl (Ev.bind (ev_eqBehave l hl a b l' hl' a' b' m n) (Ev.pos rfl (Ev.now _))))))
theorem szSetup_ends (d f w : Int) (g : List S98) (hg : g.length ≤ 9223372036854775807) (hs : ∀ x ∈ g, x.f0.size ≤ 9223372036854775807) (l : List S132) (hl : l.length ≤ 9223372036854775807) (a b : Int) (l' : List S132) (hl' : l'.length ≤ 9223372036854775807) (a' b' m n L : Int) (h0 : 0 ≤ L) (hL : L ≤ 1048576) :
    Ev (fun k => laws_szSetup.f k d f w g l a b l' a' b' m n L) (-1) ∨ ∃ L', Ev (fun k => laws_szSetup.f k d f w g l a b l' a' b' m n L) L' ∧ 0 ≤ L' ∧ L' ≤ L ∧ g.length ≤ 1048576 ∧ l.length ≤ 1048576 ∧ l'.length ≤ 1048576 := by
  unfold laws_szSetup.f
  rcases szGoalS_ends g hg hs L h0 hL with h | ⟨L1, h, h1, h2, h3⟩
  · left; exact Ev.bind h (Ev.pos (by omega) (Ev.now _))
  · rcases szBehave_ends l hl a b l' hl' a' b' m n L1 h1 (by omega) with q | ⟨L2, q, q1, q2, q3, q4⟩
    · left; exact Ev.bind h (Ev.neg (by omega) (Ev.bind0 q (Ev.pos (by omega) (Ev.now _))))
    · right; exact ⟨L2, Ev.bind h (Ev.neg (by omega) (Ev.bind0 q (Ev.neg (by omega) (Ev.now _)))), q1, by omega, h3, q3, q4⟩
end Go.Proofs.Ytblfoelddakelaa.Base
