/- SpanWithin of the program answers, at all spans and numbers of Go's int, what the reference's SpanWithin answers; the law's contract. No condition. -/
import Derived.Test.YtdamlnnoccdhgaaPFnExactSpanWithinx1
import Derived.Test.YtdamlnnoccdhgaaModel
namespace Go.Proofs.Ytdamlnnoccdhgaa.Pure
open Go.RowKit Go.Proofs.Ytdamlnnoccdhgaa.PFnExactSpanWithin Go.Proofs.YtdamlnnoccdhgaaW.PrintWords Go.Proofs.YtdamlnnoccdhgaaW.PrintLast Go.Proofs.Ytdamlnnoccdhgaa.Math
set_option linter.unusedVariables false
set_option linter.unusedSimpArgs false
namespace FnExactSpanWithin
theorem l6In_eq (a l h : Int) : spec_l6In.f a l h = some (decide (l ≤ a ∧ a ≤ h)) := by
  unfold spec_l6In.f
  by_cases c : a ≥ l
  · rw [if_pos c]; congr 1; rw [decide_eq_decide]; omega
  · rw [if_neg c]; congr 1; symm; rw [decide_eq_false_iff_not]; omega
theorem in_eq (a l h : Int) : impl_in.f a l h = some (decide (l ≤ a ∧ a ≤ h)) := by
  unfold impl_in.f
  by_cases c : l ≤ a
  · rw [if_pos c]; congr 1; rw [decide_eq_decide]; omega
  · rw [if_neg c]; congr 1; symm; rw [decide_eq_false_iff_not]; omega
theorem spec_SpanOk_eq (a b : Int) : spec_SpanOk.f a b = some (okb a b) := by
  unfold spec_SpanOk.f okb
  simp only [l6In_eq, Option.bind_some]
  by_cases c : -1073000000 ≤ a ∧ a ≤ 1073000000
  · rw [decide_eq_true c, if_pos rfl]; congr 1; rw [decide_eq_decide]; omega
  · rw [decide_eq_false c, if_neg (by decide)]; congr 1; symm; rw [decide_eq_false_iff_not]; omega
theorem impl_SpanOk_eq (a b : Int) : impl_SpanOk.f a b = some (okb a b) := by
  unfold impl_SpanOk.f okb
  simp only [in_eq, Option.bind_some]
  by_cases c : -1073000000 ≤ a ∧ a ≤ 1073000000
  · rw [decide_eq_true c, if_pos rfl]
    by_cases c2 : -1073000000 ≤ b ∧ b ≤ 1073000000
    · rw [decide_eq_true c2, if_pos rfl]; congr 1; rw [decide_eq_decide]; omega
    · rw [decide_eq_false c2, if_neg (by decide)]; congr 1; symm; rw [decide_eq_false_iff_not]; omega
  · rw [decide_eq_false c, if_neg (by decide)]; congr 1; symm; rw [decide_eq_false_iff_not]; omega
theorem spec_SpanWithin_eq (l h l' h' : Int) : spec_SpanWithin.f l h l' h' = some (spanWithin l h l' h') := by
  unfold spec_SpanWithin.f spanWithin
  simp only [spec_SpanOk_eq, Option.bind_some]
  cases c1 : okb l h <;> cases c2 : okb l' h' <;> by_cases c3 : l' ≤ l <;> simp [c3]
theorem impl_SpanWithin_eq (l h l' h' : Int) : impl_SpanWithin.f l h l' h' = some (spanWithin l h l' h') := by
  unfold impl_SpanWithin.f spanWithin
  simp only [impl_SpanOk_eq, Option.bind_some]
  cases c1 : okb l h <;> cases c2 : okb l' h' <;> by_cases c3 : l' ≤ l <;> simp [c3]
theorem toSpan_eq (l h : Int) : laws_toSpan.f l h = some (l, h) := rfl
end FnExactSpanWithin
open FnExactSpanWithin
theorem FnExactSpanWithin (a0_0 a0_1 a1_0 a1_1 : Int) : laws_FnExactSpanWithin.f a0_0 a0_1 a1_0 a1_1 = some true := by
  unfold laws_FnExactSpanWithin.f
  simp only [toSpan_eq, Option.bind_some, spec_SpanWithin_eq, impl_SpanWithin_eq]
  simp
theorem FnExactSpanWithin_walk (a0_0 a0_1 a1_0 a1_1 : Int) (_ : (Lit.int .i64 a0_0).wf = true) (_ : (Lit.int .i64 a0_1).wf = true) (_ : (Lit.int .i64 a1_0).wf = true) (_ : (Lit.int .i64 a1_1).wf = true) (w : World) :
    Calls Try.prog 5 #[.agg #[.int .i64 a0_0, .int .i64 a0_1], .agg #[.int .i64 a1_0, .int .i64 a1_1]] w fun e w' => e = .returned (.bool true) ∧ Below w.heap.size w w' :=
  laws_FnExactSpanWithin.calls a0_0 a0_1 a1_0 a1_1 true w (FnExactSpanWithin a0_0 a0_1 a1_0 a1_1)
end Go.Proofs.Ytdamlnnoccdhgaa.Pure
