/- Plain law: EventText as the statements have it.
   Conditions: none. -/
import Derived.Test.YtblfoelddakelaaDoorNum
import Derived.Test.YtblfoelddakelaaDoorU5
namespace Go.Proofs.YtblfoelddakelaaDoor.Pure
set_option linter.unusedSimpArgs false
open Go.RowKit Go.Proofs.YtblfoelddakelaaDoorW.PrintWords Go.Proofs.YtblfoelddakelaaDoorW.PrintMore Go.Proofs.YtblfoelddakelaaDoorW.PrintLast Go.Proofs.YtblfoelddakelaaDoor.Base Go.Proofs.YtblfoelddakelaaDoor.U Go.Proofs.YtblfoelddakelaaDoor.Texts

theorem wf_le {a : Int} (h : (Lit.int .i64 a).wf = true) : -9223372036854775808 ≤ a ∧ a ≤ 9223372036854775807 := by
  simp [Lit.wf, IntKind.min, IntKind.max, IntKind.signed, IntKind.bits] at h
  omega

theorem number_is (a : Int) (h0 : -9223372036854775808 ≤ a) (h1 : a ≤ 9223372036854775807) : impl_number.f a = some (S (Lib.itoa a)) := by
  unfold impl_number.f
  rw [if_pos ⟨h0, h1⟩]
  rfl
theorem words_is (l : List (List UInt8)) (h : (Lib.join l [32]).length ≤ 1000000 ∧ l.length ≤ 1000) : impl_words.f (l.map S) = some (S (Lib.join l [32])) := by
  unfold impl_words.f
  have e : (l.map S).map (·.data.toList) = l := by rw [List.map_map]; exact (List.map_congr_left fun x _ => S_data x).trans (List.map_id _)
  rw [e, if_pos ⟨by omega, by rw [List.length_map]; omega⟩]
  rfl

theorem words4 (a b c d : List UInt8) (h : a.length + b.length + c.length + d.length ≤ 10000) : impl_words.f [S a, S b, S c, S d] = some (S (a ++ [32] ++ b ++ [32] ++ c ++ [32] ++ d)) := by
  have := words_is [a, b, c, d] ⟨by simp [Lib.join, List.intercalate]; omega, by simp⟩
  rw [show [a, b, c, d].map S = [S a, S b, S c, S d] from rfl] at this
  rw [this]
  simp [Lib.join, List.intercalate]

theorem FnExactEventText : ∀ (a0_0 : Int) (a0_1 : Int) (a0_2 : Int) (a0_3 : Int), (Lit.int .i64 a0_0).wf = true → (Lit.int .i64 a0_1).wf = true → (Lit.int .i64 a0_2).wf = true → (Lit.int .i64 a0_3).wf = true → ∃ k, laws_FnExactEventText.f k a0_0 a0_1 a0_2 a0_3 = some true := by
  intro x a b c hx ha hb hc
  have hx := wf_le hx
  have ha := wf_le ha
  have hb := wf_le hb
  have hc := wf_le hc
  obtain ⟨ka, ea⟩ := ev_num a ha.1 ha.2
  obtain ⟨kb, eb⟩ := ev_num b hb.1 hb.2
  obtain ⟨kc, ec⟩ := ev_num c hc.1 hc.2
  refine ⟨ka + kb + kc, ?_⟩
  have na := number_is a ha.1 ha.2
  have nb := number_is b hb.1 hb.2
  have nc := number_is c hc.1 hc.2
  have la := itoa_len a ha.1 ha.2
  have lb := itoa_len b hb.1 hb.2
  have lc := itoa_len c hc.1 hc.2
  have ea : spec_l01Num.f (ka + kb + kc) a = _ := ea _ (by omega)
  have eb : spec_l01Num.f (ka + kb + kc) b = _ := eb _ (by omega)
  have ec : spec_l01Num.f (ka + kb + kc) c = _ := ec _ (by omega)
  generalize ka + kb + kc = k at ea eb ec
  generalize Lib.itoa a = A at *
  generalize Lib.itoa b = B at *
  generalize Lib.itoa c = C at *
  have key : ∃ X, spec_EventText.f k x a b c = some X ∧ impl_EventText.f x a b c = some X := by
    unfold spec_EventText.f impl_EventText.f
    rw [ea, eb, ec, na, nb, nc]
    simp only [Option.bind_some]
    by_cases h0 : x = 0
    · subst h0
      refine ⟨S (A ++ [58, 32] ++ [115, 99, 114, 97, 112, 101, 100] ++ [32] ++ B ++ [32] ++ [98, 97, 100] ++ [32] ++ C), ?_, ?_⟩
      · (refine (if_pos ?_).trans ?_; (simp only [S_lit, S_app, S_size, List.length_append, List.length_cons, List.length_nil]; omega)); (refine (if_pos ?_).trans ?_; (simp only [S_lit, S_app, S_size, List.length_append, List.length_cons, List.length_nil]; omega)); (refine (if_pos ?_).trans ?_; (simp only [S_lit, S_app, S_size, List.length_append, List.length_cons, List.length_nil]; omega)); (refine (if_pos ?_).trans ?_; (simp only [S_lit, S_app, S_size, List.length_append, List.length_cons, List.length_nil]; omega))
        refine (if_pos rfl).trans ?_
        (refine (if_pos ?_).trans ?_; (simp only [S_lit, S_app, S_size, List.length_append, List.length_cons, List.length_nil]; omega)); (refine (if_pos ?_).trans ?_; (simp only [S_lit, S_app, S_size, List.length_append, List.length_cons, List.length_nil]; omega)); (refine (if_pos ?_).trans ?_; (simp only [S_lit, S_app, S_size, List.length_append, List.length_cons, List.length_nil]; omega)); (refine (if_pos ?_).trans ?_; (simp only [S_lit, S_app, S_size, List.length_append, List.length_cons, List.length_nil]; omega))
        simp only [S_lit, S_app, Option.some.injEq]
        congr 1
        simp
      · (refine (if_pos ?_).trans ?_; (simp only [S_lit, S_app, S_size, List.length_append, List.length_cons, List.length_nil]; omega))
        refine (if_pos rfl).trans ?_
        simp only [S_lit]
        rw [words4 _ _ _ _ (by simp only [List.length_cons, List.length_nil]; omega), Option.bind_some]
        (refine (if_pos ?_).trans ?_; (simp only [S_lit, S_app, S_size, List.length_append, List.length_cons, List.length_nil]; omega))
        simp only [S_lit, S_app, Option.some.injEq]
        congr 1
        simp
    by_cases h1 : x = 1
    · subst h1
      refine ⟨S (A ++ [58, 32] ++ [109, 111, 118, 101, 100] ++ [32] ++ B ++ [32] ++ [116, 111] ++ [32] ++ C), ?_, ?_⟩
      · (refine (if_pos ?_).trans ?_; (simp only [S_lit, S_app, S_size, List.length_append, List.length_cons, List.length_nil]; omega)); (refine (if_pos ?_).trans ?_; (simp only [S_lit, S_app, S_size, List.length_append, List.length_cons, List.length_nil]; omega)); (refine (if_pos ?_).trans ?_; (simp only [S_lit, S_app, S_size, List.length_append, List.length_cons, List.length_nil]; omega)); (refine (if_pos ?_).trans ?_; (simp only [S_lit, S_app, S_size, List.length_append, List.length_cons, List.length_nil]; omega))
        refine (if_neg (by decide)).trans ?_
        refine (if_pos rfl).trans ?_
        (refine (if_pos ?_).trans ?_; (simp only [S_lit, S_app, S_size, List.length_append, List.length_cons, List.length_nil]; omega)); (refine (if_pos ?_).trans ?_; (simp only [S_lit, S_app, S_size, List.length_append, List.length_cons, List.length_nil]; omega))
        simp only [S_lit, S_app, Option.some.injEq]
        congr 1
        simp
      · (refine (if_pos ?_).trans ?_; (simp only [S_lit, S_app, S_size, List.length_append, List.length_cons, List.length_nil]; omega))
        refine (if_neg (by decide)).trans ?_
        refine (if_pos rfl).trans ?_
        simp only [S_lit]
        rw [words4 _ _ _ _ (by simp only [List.length_cons, List.length_nil]; omega), Option.bind_some]
        (refine (if_pos ?_).trans ?_; (simp only [S_lit, S_app, S_size, List.length_append, List.length_cons, List.length_nil]; omega))
        simp only [S_lit, S_app, Option.some.injEq]
        congr 1
        simp
    by_cases h2 : x = 2
    · subst h2
      refine ⟨S (A ++ [58, 32] ++ [102, 97, 105, 108, 101, 100] ++ [32] ++ B ++ [32] ++ [116, 111] ++ [32] ++ C), ?_, ?_⟩
      · (refine (if_pos ?_).trans ?_; (simp only [S_lit, S_app, S_size, List.length_append, List.length_cons, List.length_nil]; omega)); (refine (if_pos ?_).trans ?_; (simp only [S_lit, S_app, S_size, List.length_append, List.length_cons, List.length_nil]; omega)); (refine (if_pos ?_).trans ?_; (simp only [S_lit, S_app, S_size, List.length_append, List.length_cons, List.length_nil]; omega)); (refine (if_pos ?_).trans ?_; (simp only [S_lit, S_app, S_size, List.length_append, List.length_cons, List.length_nil]; omega))
        refine (if_neg (by decide)).trans ?_
        refine (if_neg (by decide)).trans ?_
        refine (if_pos rfl).trans ?_
        (refine (if_pos ?_).trans ?_; (simp only [S_lit, S_app, S_size, List.length_append, List.length_cons, List.length_nil]; omega)); (refine (if_pos ?_).trans ?_; (simp only [S_lit, S_app, S_size, List.length_append, List.length_cons, List.length_nil]; omega))
        simp only [S_lit, S_app, Option.some.injEq]
        congr 1
        simp
      · (refine (if_pos ?_).trans ?_; (simp only [S_lit, S_app, S_size, List.length_append, List.length_cons, List.length_nil]; omega))
        refine (if_neg (by decide)).trans ?_
        refine (if_neg (by decide)).trans ?_
        refine (if_pos rfl).trans ?_
        simp only [S_lit]
        rw [words4 _ _ _ _ (by simp only [List.length_cons, List.length_nil]; omega), Option.bind_some]
        (refine (if_pos ?_).trans ?_; (simp only [S_lit, S_app, S_size, List.length_append, List.length_cons, List.length_nil]; omega))
        simp only [S_lit, S_app, Option.some.injEq]
        congr 1
        simp
    by_cases h3 : x = 3
    · subst h3
      refine ⟨S (A ++ [58, 32] ++ [114, 101, 115, 116, 97, 114, 116]), ?_, ?_⟩
      · (refine (if_pos ?_).trans ?_; (simp only [S_lit, S_app, S_size, List.length_append, List.length_cons, List.length_nil]; omega)); (refine (if_pos ?_).trans ?_; (simp only [S_lit, S_app, S_size, List.length_append, List.length_cons, List.length_nil]; omega)); (refine (if_pos ?_).trans ?_; (simp only [S_lit, S_app, S_size, List.length_append, List.length_cons, List.length_nil]; omega)); (refine (if_pos ?_).trans ?_; (simp only [S_lit, S_app, S_size, List.length_append, List.length_cons, List.length_nil]; omega))
        refine (if_neg (by decide)).trans ?_
        refine (if_neg (by decide)).trans ?_
        refine (if_neg (by decide)).trans ?_
        refine (if_pos rfl).trans ?_
        (refine (if_pos ?_).trans ?_; (simp only [S_lit, S_app, S_size, List.length_append, List.length_cons, List.length_nil]; omega))
        simp only [S_lit, S_app]
      · (refine (if_pos ?_).trans ?_; (simp only [S_lit, S_app, S_size, List.length_append, List.length_cons, List.length_nil]; omega))
        refine (if_neg (by decide)).trans ?_
        refine (if_neg (by decide)).trans ?_
        refine (if_neg (by decide)).trans ?_
        refine (if_pos rfl).trans ?_
        (refine (if_pos ?_).trans ?_; (simp only [S_lit, S_app, S_size, List.length_append, List.length_cons, List.length_nil]; omega))
        simp only [S_lit, S_app]
    by_cases h4 : x = 4
    · subst h4
      refine ⟨S (A ++ [58, 32] ++ [104, 97, 110, 100, 115] ++ [32] ++ B ++ [32] ++ [116, 111] ++ [32] ++ C), ?_, ?_⟩
      · (refine (if_pos ?_).trans ?_; (simp only [S_lit, S_app, S_size, List.length_append, List.length_cons, List.length_nil]; omega)); (refine (if_pos ?_).trans ?_; (simp only [S_lit, S_app, S_size, List.length_append, List.length_cons, List.length_nil]; omega)); (refine (if_pos ?_).trans ?_; (simp only [S_lit, S_app, S_size, List.length_append, List.length_cons, List.length_nil]; omega)); (refine (if_pos ?_).trans ?_; (simp only [S_lit, S_app, S_size, List.length_append, List.length_cons, List.length_nil]; omega))
        refine (if_neg (by decide)).trans ?_
        refine (if_neg (by decide)).trans ?_
        refine (if_neg (by decide)).trans ?_
        refine (if_neg (by decide)).trans ?_
        refine (if_pos rfl).trans ?_
        (refine (if_pos ?_).trans ?_; (simp only [S_lit, S_app, S_size, List.length_append, List.length_cons, List.length_nil]; omega)); (refine (if_pos ?_).trans ?_; (simp only [S_lit, S_app, S_size, List.length_append, List.length_cons, List.length_nil]; omega))
        simp only [S_lit, S_app, Option.some.injEq]
        congr 1
        simp
      · (refine (if_pos ?_).trans ?_; (simp only [S_lit, S_app, S_size, List.length_append, List.length_cons, List.length_nil]; omega))
        refine (if_neg (by decide)).trans ?_
        refine (if_neg (by decide)).trans ?_
        refine (if_neg (by decide)).trans ?_
        refine (if_neg (by decide)).trans ?_
        refine (if_pos rfl).trans ?_
        simp only [S_lit]
        rw [words4 _ _ _ _ (by simp only [List.length_cons, List.length_nil]; omega), Option.bind_some]
        (refine (if_pos ?_).trans ?_; (simp only [S_lit, S_app, S_size, List.length_append, List.length_cons, List.length_nil]; omega))
        simp only [S_lit, S_app, Option.some.injEq]
        congr 1
        simp
    · refine ⟨S [], ?_, ?_⟩
      · (refine (if_pos ?_).trans ?_; (simp only [S_lit, S_app, S_size, List.length_append, List.length_cons, List.length_nil]; omega)); (refine (if_pos ?_).trans ?_; (simp only [S_lit, S_app, S_size, List.length_append, List.length_cons, List.length_nil]; omega)); (refine (if_pos ?_).trans ?_; (simp only [S_lit, S_app, S_size, List.length_append, List.length_cons, List.length_nil]; omega)); (refine (if_pos ?_).trans ?_; (simp only [S_lit, S_app, S_size, List.length_append, List.length_cons, List.length_nil]; omega))
        refine (if_neg h0).trans ?_
        refine (if_neg h1).trans ?_
        refine (if_neg h2).trans ?_
        refine (if_neg h3).trans ?_
        refine (if_neg h4).trans ?_
        rfl
      · (refine (if_pos ?_).trans ?_; (simp only [S_lit, S_app, S_size, List.length_append, List.length_cons, List.length_nil]; omega))
        refine (if_neg h0).trans ?_
        refine (if_neg h1).trans ?_
        refine (if_neg h2).trans ?_
        refine (if_neg h3).trans ?_
        refine (if_neg h4).trans ?_
        rfl
  obtain ⟨X, e1, e2⟩ := key
  unfold laws_FnExactEventText.f laws_toEvent.f
  simp only [Option.bind_some, e1, e2, if_true]
end Go.Proofs.YtblfoelddakelaaDoor.Pure
