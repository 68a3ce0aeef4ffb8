/- Copying a Side or a Behave gives it; each equals itself; their sizes.
   Conditions: none. -/
import Derived.Test.YtfjjlipfjddaiaaU26
import Derived.Test.YtfjjlipfjddaiaaU26
import Derived.Test.YtfjjlipfjddaiaaU29
import Derived.Test.YtfjjlipfjddaiaaU30
import Derived.Test.YtfjjlipfjddaiaaU23
import Derived.Test.YtfjjlipfjddaiaaU23
import Derived.Test.YtfjjlipfjddaiaaU23
import Derived.Test.YtfjjlipfjddaiaaCvPolicy
namespace Go.Proofs.Ytfjjlipfjddaiaa.Base
open Go.RowKit Go.Proofs.YtfjjlipfjddaiaaW.PrintWords Go.Proofs.YtfjjlipfjddaiaaW.PrintMore Go.Proofs.Ytfjjlipfjddaiaa.U
theorem ev_toSide (l : List S125) (hl : l.length ≤ 1048576) (a b : Int) : Ev (fun k => laws_toSide.f k l a b) (l.map cvPolicy, a, b) := by
  unfold laws_toSide.f
  exact Ev.bind (ev_toPolicyS l hl) (Ev.now _)
theorem ev_toBehave (l : List S125) (hl : l.length ≤ 1048576) (a b : Int) (l' : List S125) (hl' : l'.length ≤ 1048576) (a' b' m n : Int) : Ev (fun k => laws_toBehave.f k l a b l' a' b' m n) (l.map cvPolicy, a, b, l'.map cvPolicy, a', b', m, n) := by
  unfold laws_toBehave.f
  exact Ev.bind (ev_toSide l hl a b) (Ev.bind (ev_toSide l' hl' a' b') (Ev.now _))
theorem ev_eqSide (l : List S96) (hl : l.length ≤ 1048576) (a b : Int) : Ev (fun k => laws_eqSide.f k l a b l a b) true := by
  unfold laws_eqSide.f
  exact Ev.bind (ev_eqPolicyS l hl) (Ev.pos rfl (Ev.pos rfl (Ev.pos rfl (Ev.now _))))
theorem ev_eqBehave (l : List S96) (hl : l.length ≤ 1048576) (a b : Int) (l' : List S96) (hl' : l'.length ≤ 1048576) (a' b' m n : Int) : Ev (fun k => laws_eqBehave.f k l a b l' a' b' m n l a b l' a' b' m n) true := by
  unfold laws_eqBehave.f
  exact Ev.bind (ev_eqSide l hl a b) (Ev.pos rfl (Ev.bind (ev_eqSide l' hl' a' b') (Ev.pos rfl (Ev.pos rfl (Ev.pos rfl (Ev.now _))))))
theorem szSide_ends (l : List S125) (hl : l.length ≤ 9223372036854775807) (a b L : Int) (h0 : 0 ≤ L) (hL : L ≤ 1048576) : laws_szSide.f l a b L = some (-1) ∨ ∃ L', laws_szSide.f l a b L = some L' ∧ 0 ≤ L' ∧ L' ≤ L ∧ l.length ≤ 1048576 := by
  unfold laws_szSide.f laws_szPolicyS.f
  rw [sz_len hl h0 hL]
  by_cases h : L - (l.length : Int) < 0
  · left; rw [if_pos h]; rfl
  · right; rw [if_neg h]; exact ⟨_, by rw [Option.bind_some, if_neg h], by omega, by omega, by omega⟩
theorem szBehave_ends (l : List S125) (hl : l.length ≤ 9223372036854775807) (a b : Int) (l' : List S125) (hl' : l'.length ≤ 9223372036854775807) (a' b' m n L : Int) (h0 : 0 ≤ L) (hL : L ≤ 1048576) : laws_szBehave.f l a b l' a' b' m n L = some (-1) ∨ ∃ L', laws_szBehave.f l a b l' a' b' m n L = some L' ∧ 0 ≤ L' ∧ L' ≤ L ∧ l.length ≤ 1048576 ∧ l'.length ≤ 1048576 := by
  unfold laws_szBehave.f
  rcases szSide_ends l hl a b L h0 hL with h | ⟨L1, h, h1, h2, h3⟩
  · left; rw [h]; rfl
  · rw [h, Option.bind_some, if_neg (by omega)]
    rcases szSide_ends l' hl' a' b' L1 h1 (by omega) with g | ⟨L2, g, g1, g2, g3⟩
    · left; rw [g]; rfl
    · right; rw [g, Option.bind_some, if_neg (by omega)]; exact ⟨L2, rfl, g1, by omega, h3, g3⟩
end Go.Proofs.Ytfjjlipfjddaiaa.Base
