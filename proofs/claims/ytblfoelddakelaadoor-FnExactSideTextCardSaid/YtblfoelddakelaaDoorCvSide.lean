/- Copying a Side gives it; it equals itself; its size.
   Conditions: none. -/
import Derived.Test.YtblfoelddakelaaDoorU8
import Derived.Test.YtblfoelddakelaaDoorU12
import Derived.Test.YtblfoelddakelaaDoorU5
import Derived.Test.YtblfoelddakelaaDoorU5
import Derived.Test.YtblfoelddakelaaDoorCvPolicy
namespace Go.Proofs.YtblfoelddakelaaDoor.Base
open Go.RowKit Go.Proofs.YtblfoelddakelaaDoorW.PrintWords Go.Proofs.YtblfoelddakelaaDoorW.PrintMore Go.Proofs.YtblfoelddakelaaDoor.U
theorem ev_toSide (l : List S94) (hl : l.length ≤ 1048576) (a b : Int) : Ev (fun k => laws_toSide.f k l a b) (l.map cvPolicy, a, b) := by
  unfold laws_toSide.f
  exact Ev.bind (ev_toPolicyS l hl) (Ev.now _)
theorem ev_eqSide (l : List S67) (hl : l.length ≤ 1048576) (a b : Int) : Ev (fun k => laws_eqSide.f k l a b l a b) true := by
  unfold laws_eqSide.f
  exact Ev.bind (ev_eqPolicyS l hl) (Ev.pos rfl (Ev.pos rfl (Ev.pos rfl (Ev.now _))))
theorem szSide_ends (l : List S94) (hl : l.length ≤ 9223372036854775807) (a b L : Int) (h0 : 0 ≤ L) (hL : L ≤ 1048576) : laws_szSide.f l a b L = some (-1) ∨ ∃ L', laws_szSide.f l a b L = some L' ∧ 0 ≤ L' ∧ L' ≤ L ∧ l.length ≤ 1048576 := by
  unfold laws_szSide.f laws_szPolicyS.f
  rw [sz_len hl h0 hL]
  by_cases h : L - (l.length : Int) < 0
  · left; rw [if_pos h]; rfl
  · right; rw [if_neg h]; exact ⟨_, by rw [Option.bind_some, if_neg h], by omega, by omega, by omega⟩
end Go.Proofs.YtblfoelddakelaaDoor.Base
