/- SideText of the program and of the reference: one text.
   Conditions: none. -/
import Derived.Test.YtblfoelddakelaaDoorWords
import Derived.Test.YtblfoelddakelaaDoorSideOk
import Derived.Test.YtblfoelddakelaaDoorU7
import Derived.Test.YtblfoelddakelaaDoorU10
namespace Go.Proofs.YtblfoelddakelaaDoor.Texts
set_option linter.unusedSimpArgs false
open Go.RowKit Go.Proofs.YtblfoelddakelaaDoorW.PrintWords Go.Proofs.YtblfoelddakelaaDoorW.PrintMore Go.Proofs.YtblfoelddakelaaDoorW.PrintLast Go.Proofs.YtblfoelddakelaaDoor.Base Go.Proofs.YtblfoelddakelaaDoor.U

def polTx (p : S67) : List UInt8 := [32] ++ Lib.itoa p.f0 ++ [58] ++ Lib.itoa p.f1 ++ [58] ++ Lib.itoa p.f2
def sideTx (l : List S67) (sel win : Int) : List UInt8 :=
  (List.range' 0 l.length).foldl (fun s (i : Nat) => s ++ polTx (rd_T67 l i)) (Lib.itoa sel ++ [32] ++ Lib.itoa win)

theorem sideText_spec (l : List S67) (sel win : Int) (h : sideOk l sel win = true) : Ev (fun k => spec_SideText.f k l sel win) (S (sideTx l sel win)) := by
  obtain ⟨hn, hs, hw, hp⟩ := sideOk_facts h
  unfold spec_SideText.f
  have e0 := sideOk_spec l sel win
  rw [h] at e0
  have l1 := itoa_len sel (by omega) (by omega)
  have l2 := itoa_len win (by omega) (by omega)
  refine Ev.bind e0 (Ev.pos rfl (Ev.bind (ev_num sel (by omega) (by omega)) (Ev.pos ?_ (Ev.bind (ev_num win (by omega) (by omega)) (Ev.pos ?_ ?_)))))
  · rw [S_size]; omega
  · (simp only [S_lit, S_app, S_size, List.length_append, List.length_cons, List.length_nil]; omega)
  · simp only [S_lit, S_app]
    refine ev_fold (n := l.length) (F := fun k s i => spec_SideText.l0 k (S s) i l sel win) (out := S) (st := fun s (i : Nat) => s ++ polTx (rd_T67 l i)) (Inv := fun s i => s.length ≤ 100 + 100 * i) ?_ ?_ l.length 0 _ (by omega) ?_
    · intro s _
      exact Ev.step (fun k => rfl) (Ev.neg (by omega) (Ev.now _))
    · intro s i hi hI
      obtain ⟨p0, p1, p2⟩ := hp i hi
      have n0 := itoa_len _ (show -9223372036854775808 ≤ (rd_T67 l i).f0 by omega) (by omega)
      have n1 := itoa_len _ (show -9223372036854775808 ≤ (rd_T67 l i).f1 by omega) (by omega)
      have n2 := itoa_len _ (show -9223372036854775808 ≤ (rd_T67 l i).f2 by omega) (by omega)
      have hI' : s.length ≤ 500 := by have : s.length ≤ 100 + 100 * i := hI; omega
      refine ⟨?_, fun r hr => ?_⟩
      · show (s ++ polTx _).length ≤ _
        simp only [polTx, List.length_append, List.length_cons, List.length_nil]
        have : s.length ≤ 100 + 100 * i := hI
        omega
      · refine Ev.step (fun k => rfl) ?_
        refine Ev.pos (by omega) (Ev.pos (by omega) (Ev.pos ?_ (Ev.bind (ev_num _ (by omega) (by omega)) (Ev.pos ?_ (Ev.pos ?_ (Ev.bind (ev_num _ (by omega) (by omega)) (Ev.pos ?_ (Ev.pos ?_ (Ev.bind (ev_num _ (by omega) (by omega)) (Ev.pos ?_ ?_))))))))))
        · (simp only [S_lit, S_app, S_size, List.length_append, List.length_cons, List.length_nil]; omega)
        · (simp only [S_lit, S_app, S_size, List.length_append, List.length_cons, List.length_nil]; omega)
        · (simp only [S_lit, S_app, S_size, List.length_append, List.length_cons, List.length_nil]; omega)
        · (simp only [S_lit, S_app, S_size, List.length_append, List.length_cons, List.length_nil]; omega)
        · (simp only [S_lit, S_app, S_size, List.length_append, List.length_cons, List.length_nil]; omega)
        · (simp only [S_lit, S_app, S_size, List.length_append, List.length_cons, List.length_nil]; omega)
        · simp only [S_lit, S_app]
          rw [wr_succ hi (by omega)]
          have e : s ++ [32] ++ Lib.itoa (rd_T67 l i).f0 ++ [58] ++ Lib.itoa (rd_T67 l i).f1 ++ [58] ++ Lib.itoa (rd_T67 l i).f2 = s ++ polTx (rd_T67 l i) := by simp [polTx]
          rw [e]
          exact hr
    · simp only [List.length_append, List.length_cons, List.length_nil]; omega

theorem words2 (a b : List UInt8) (h : a.length + b.length ≤ 10000) : impl_words.f [S a, S b] = some (S (a ++ [32] ++ b)) := by
  have := words_is [a, b] ⟨by simp [Lib.join, List.intercalate]; omega, by simp⟩
  rw [show [a, b].map S = [S a, S b] from rfl] at this
  rw [this]
  simp [Lib.join, List.intercalate]

theorem sideText_impl (l : List S67) (sel win : Int) (h : sideOk l sel win = true) : Ev (fun k => impl_SideText.f k l sel win) (S (sideTx l sel win)) := by
  obtain ⟨hn, hs, hw, hp⟩ := sideOk_facts h
  unfold impl_SideText.f
  have e0 := sideOk_impl l (by omega) sel win
  rw [h] at e0
  have l1 := itoa_len sel (by omega) (by omega)
  have l2 := itoa_len win (by omega) (by omega)
  refine Ev.bind e0 (Ev.pos rfl (Ev.bind0 (number_is sel (by omega) (by omega)) (Ev.bind0 (number_is win (by omega) (by omega)) (Ev.bind0 (words2 _ _ (by omega)) ?_))))
  refine ev_fold (n := l.length) (F := fun k s i => impl_SideText.l0 k (S s) l (l.length : Int) i) (out := S) (st := fun s (i : Nat) => s ++ polTx (rd_T67 l i)) (Inv := fun s i => s.length ≤ 100 + 100 * i) ?_ ?_ l.length 0 _ (by omega) ?_
  · intro s _
    exact Ev.step (fun k => rfl) (Ev.neg (by omega) (Ev.now _))
  · intro s i hi hI
    obtain ⟨p0, p1, p2⟩ := hp i hi
    have n0 := itoa_len _ (show -9223372036854775808 ≤ (rd_T67 l i).f0 by omega) (by omega)
    have n1 := itoa_len _ (show -9223372036854775808 ≤ (rd_T67 l i).f1 by omega) (by omega)
    have n2 := itoa_len _ (show -9223372036854775808 ≤ (rd_T67 l i).f2 by omega) (by omega)
    have hI' : s.length ≤ 500 := by have : s.length ≤ 100 + 100 * i := hI; omega
    refine ⟨?_, fun r hr => ?_⟩
    · show (s ++ polTx _).length ≤ _
      simp only [polTx, List.length_append, List.length_cons, List.length_nil]
      have : s.length ≤ 100 + 100 * i := hI
      omega
    · refine Ev.step (fun k => rfl) ?_
      refine Ev.pos (by omega) (Ev.pos (by omega) (Ev.pos (by omega) (Ev.bind0 (number_is _ (by omega) (by omega)) (Ev.pos ?_ (Ev.pos ?_ (Ev.bind0 (number_is _ (by omega) (by omega)) (Ev.pos ?_ (Ev.pos ?_ (Ev.bind0 (number_is _ (by omega) (by omega)) (Ev.pos ?_ (Ev.pos ?_ ?_)))))))))))
      · (simp only [S_lit, S_app, S_size, List.length_append, List.length_cons, List.length_nil]; omega)
      · (simp only [S_lit, S_app, S_size, List.length_append, List.length_cons, List.length_nil]; omega)
      · (simp only [S_lit, S_app, S_size, List.length_append, List.length_cons, List.length_nil]; omega)
      · (simp only [S_lit, S_app, S_size, List.length_append, List.length_cons, List.length_nil]; omega)
      · (simp only [S_lit, S_app, S_size, List.length_append, List.length_cons, List.length_nil]; omega)
      · (simp only [S_lit, S_app, S_size, List.length_append, List.length_cons, List.length_nil]; omega)
      · simp only [S_lit, S_app]
        rw [wr_succ hi (by omega)]
        have e : s ++ ([32] ++ Lib.itoa (rd_T67 l i).f0 ++ [58] ++ Lib.itoa (rd_T67 l i).f1 ++ [58] ++ Lib.itoa (rd_T67 l i).f2) = s ++ polTx (rd_T67 l i) := rfl
        rw [e]
        exact hr
  · simp only [List.length_append, List.length_cons, List.length_nil]; omega

/-- For every Side both give one text. -/
theorem sideText_ends (l : List S67) (hl : l.length ≤ 1048576) (sel win : Int) : ∃ X, Ev (fun k => spec_SideText.f k l sel win) X ∧ Ev (fun k => impl_SideText.f k l sel win) X := by
  cases h : sideOk l sel win with
  | true => exact ⟨_, sideText_spec l sel win h, sideText_impl l sel win h⟩
  | false =>
    have e0 := sideOk_spec l sel win
    have e1 := sideOk_impl l hl sel win
    rw [h] at e0 e1
    unfold spec_SideText.f impl_SideText.f
    exact ⟨_, Ev.bind e0 (Ev.neg (by decide) (Ev.now _)), Ev.bind e1 (Ev.neg (by decide) (Ev.now _))⟩
end Go.Proofs.YtblfoelddakelaaDoor.Texts
