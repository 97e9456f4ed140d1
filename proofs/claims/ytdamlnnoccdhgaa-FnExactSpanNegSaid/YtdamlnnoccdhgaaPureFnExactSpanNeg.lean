/- SpanNeg of the program answers, at all spans and numbers of Go's int, what the reference's SpanNeg answers; the law's contract. No condition. -/
import Derived.Test.YtdamlnnoccdhgaaPFnExactSpanNegx1
import Derived.Test.YtdamlnnoccdhgaaModel
namespace Go.Proofs.Ytdamlnnoccdhgaa.Pure
open Go.RowKit Go.Proofs.Ytdamlnnoccdhgaa.PFnExactSpanNeg Go.Proofs.YtdamlnnoccdhgaaW.PrintWords Go.Proofs.YtdamlnnoccdhgaaW.PrintLast Go.Proofs.Ytdamlnnoccdhgaa.Math
set_option linter.unusedVariables false
set_option linter.unusedSimpArgs false
namespace FnExactSpanNeg
theorem l6In_eq (a l h : Int) : spec_l6In.f a l h = some (decide (l ≤ a ∧ a ≤ h)) := by
  unfold spec_l6In.f
  by_cases c : a ≥ l
  · rw [if_pos c]; congr 1; rw [decide_eq_decide]; omega
  · rw [if_neg c]; congr 1; symm; rw [decide_eq_false_iff_not]; omega
theorem in_eq (a l h : Int) : impl_in.f a l h = some (decide (l ≤ a ∧ a ≤ h)) := by
  unfold impl_in.f
  by_cases c : l ≤ a
  · rw [if_pos c]; congr 1; rw [decide_eq_decide]; omega
  · rw [if_neg c]; congr 1; symm; rw [decide_eq_false_iff_not]; omega
theorem spec_SpanOk_eq (a b : Int) : spec_SpanOk.f a b = some (okb a b) := by
  unfold spec_SpanOk.f okb
  simp only [l6In_eq, Option.bind_some]
  by_cases c : -1073000000 ≤ a ∧ a ≤ 1073000000
  · rw [decide_eq_true c, if_pos rfl]; congr 1; rw [decide_eq_decide]; omega
  · rw [decide_eq_false c, if_neg (by decide)]; congr 1; symm; rw [decide_eq_false_iff_not]; omega
theorem impl_SpanOk_eq (a b : Int) : impl_SpanOk.f a b = some (okb a b) := by
  unfold impl_SpanOk.f okb
  simp only [in_eq, Option.bind_some]
  by_cases c : -1073000000 ≤ a ∧ a ≤ 1073000000
  · rw [decide_eq_true c, if_pos rfl]
    by_cases c2 : -1073000000 ≤ b ∧ b ≤ 1073000000
    · rw [decide_eq_true c2, if_pos rfl]; congr 1; rw [decide_eq_decide]; omega
    · rw [decide_eq_false c2, if_neg (by decide)]; congr 1; symm; rw [decide_eq_false_iff_not]; omega
  · rw [decide_eq_false c, if_neg (by decide)]; congr 1; symm; rw [decide_eq_false_iff_not]; omega
theorem spec_SpanNeg_eq (l h : Int) : spec_SpanNeg.f l h = some (spanNeg l h) := by
  unfold spec_SpanNeg.f spanNeg
  simp only [spec_SpanOk_eq, Option.bind_some]
  cases c1 : okb l h
  · simp
  · have k1 := okb_true.mp c1
    rw [wrap_id (x := -h) (by omega) (by omega), wrap_id (x := -l) (by omega) (by omega)]
    simp
theorem impl_SpanNeg_eq (l h : Int) : impl_SpanNeg.f l h = some (spanNeg l h) := by
  unfold impl_SpanNeg.f spanNeg
  simp only [impl_SpanOk_eq, Option.bind_some]
  cases c1 : okb l h
  · simp
  · have k1 := okb_true.mp c1
    rw [wrap_id (x := -h) (by omega) (by omega), wrap_id (x := -l) (by omega) (by omega)]
    simp
theorem eqSpan_refl (l h : Int) : laws_eqSpan.f l h l h = some true := by
  unfold laws_eqSpan.f
  rw [if_pos rfl, if_pos rfl]
theorem toSpan_eq (l h : Int) : laws_toSpan.f l h = some (l, h) := rfl
end FnExactSpanNeg
open FnExactSpanNeg
theorem FnExactSpanNeg (a0_0 a0_1 : Int) : laws_FnExactSpanNeg.f a0_0 a0_1 = some true := by
  unfold laws_FnExactSpanNeg.f
  simp only [toSpan_eq, Option.bind_some, spec_SpanNeg_eq, impl_SpanNeg_eq, eqSpan_refl]
  simp
theorem FnExactSpanNeg_walk (a0_0 a0_1 : Int) (_ : (Lit.int .i64 a0_0).wf = true) (_ : (Lit.int .i64 a0_1).wf = true) (w : World) :
    Calls Try.prog 9 #[.agg #[.int .i64 a0_0, .int .i64 a0_1]] w fun e w' => e = .returned (.bool true) ∧ Below w.heap.size w w' :=
  laws_FnExactSpanNeg.calls a0_0 a0_1 true w (FnExactSpanNeg a0_0 a0_1)
end Go.Proofs.Ytdamlnnoccdhgaa.Pure
