/- SpanHas of the program answers, at all spans and numbers of Go's int, what the reference's SpanHas answers; the law's contract. No condition. -/
import Derived.Test.YtdamlnnoccdhgaaPFnExactSpanHasx1
import Derived.Test.YtdamlnnoccdhgaaModel
namespace Go.Proofs.Ytdamlnnoccdhgaa.Pure
open Go.RowKit Go.Proofs.Ytdamlnnoccdhgaa.PFnExactSpanHas Go.Proofs.YtdamlnnoccdhgaaW.PrintWords Go.Proofs.YtdamlnnoccdhgaaW.PrintLast Go.Proofs.Ytdamlnnoccdhgaa.Math
set_option linter.unusedVariables false
set_option linter.unusedSimpArgs false
namespace FnExactSpanHas
theorem l6In_eq (a l h : Int) : spec_l6In.f a l h = some (decide (l ≤ a ∧ a ≤ h)) := by
  unfold spec_l6In.f
  by_cases c : a ≥ l
  · rw [if_pos c]; congr 1; rw [decide_eq_decide]; omega
  · rw [if_neg c]; congr 1; symm; rw [decide_eq_false_iff_not]; omega
theorem in_eq (a l h : Int) : impl_in.f a l h = some (decide (l ≤ a ∧ a ≤ h)) := by
  unfold impl_in.f
  by_cases c : l ≤ a
  · rw [if_pos c]; congr 1; rw [decide_eq_decide]; omega
  · rw [if_neg c]; congr 1; symm; rw [decide_eq_false_iff_not]; omega
theorem spec_SpanOk_eq (a b : Int) : spec_SpanOk.f a b = some (okb a b) := by
  unfold spec_SpanOk.f okb
  simp only [l6In_eq, Option.bind_some]
  by_cases c : -1073000000 ≤ a ∧ a ≤ 1073000000
  · rw [decide_eq_true c, if_pos rfl]; congr 1; rw [decide_eq_decide]; omega
  · rw [decide_eq_false c, if_neg (by decide)]; congr 1; symm; rw [decide_eq_false_iff_not]; omega
theorem impl_SpanOk_eq (a b : Int) : impl_SpanOk.f a b = some (okb a b) := by
  unfold impl_SpanOk.f okb
  simp only [in_eq, Option.bind_some]
  by_cases c : -1073000000 ≤ a ∧ a ≤ 1073000000
  · rw [decide_eq_true c, if_pos rfl]
    by_cases c2 : -1073000000 ≤ b ∧ b ≤ 1073000000
    · rw [decide_eq_true c2, if_pos rfl]; congr 1; rw [decide_eq_decide]; omega
    · rw [decide_eq_false c2, if_neg (by decide)]; congr 1; symm; rw [decide_eq_false_iff_not]; omega
  · rw [decide_eq_false c, if_neg (by decide)]; congr 1; symm; rw [decide_eq_false_iff_not]; omega
theorem l2Rat_eq (a b : Int) : spec_l2Rat.f a b = some (ratb a b) := by
  unfold spec_l2Rat.f ratb
  simp only [l6In_eq, Option.bind_some]
  by_cases c : -1000000000 ≤ a ∧ a ≤ 1000000000
  · rw [decide_eq_true c, if_pos rfl]; congr 1; rw [decide_eq_decide]; omega
  · rw [decide_eq_false c, if_neg (by decide)]; congr 1; symm; rw [decide_eq_false_iff_not]; omega
theorem isNumber_eq (a b : Int) : impl_isNumber.f a b = some (ratb a b) := by
  unfold impl_isNumber.f ratb
  simp only [in_eq, Option.bind_some]
  by_cases c : -1000000000 ≤ a ∧ a ≤ 1000000000
  · rw [decide_eq_true c, if_pos rfl]; congr 1; rw [decide_eq_decide]; omega
  · rw [decide_eq_false c, if_neg (by decide)]; congr 1; symm; rw [decide_eq_false_iff_not]; omega
theorem spec_SpanHas_eq (l h a b : Int) : spec_SpanHas.f l h a b = some (spanHas l h a b) := by
  unfold spec_SpanHas.f spanHas
  simp only [spec_SpanOk_eq, l2Rat_eq, Option.bind_some]
  cases c1 : okb l h
  · simp
  · cases c2 : ratb a b
    · simp
    · have k1 := okb_true.mp c1
      have k2 := ratb_true.mp c2
      have h1 := mul_bd (x := l) (y := b) (m := 1073000000) (n := 1000000000) (by omega) (by omega) (by omega) (by omega)
      have h2 := mul_bd (x := h) (y := b) (m := 1073000000) (n := 1000000000) (by omega) (by omega) (by omega) (by omega)
      rw [wrap_id (x := l * b) (by omega) (by omega), wrap_id (x := h * b) (by omega) (by omega), wrap_id (x := a * 1000000000) (by omega) (by omega)]
      by_cases c3 : l * b ≤ a * 1000000000 <;> simp [c3]
theorem impl_SpanHas_eq (l h a b : Int) : impl_SpanHas.f l h a b = some (spanHas l h a b) := by
  unfold impl_SpanHas.f spanHas
  simp only [impl_SpanOk_eq, isNumber_eq, in_eq, Option.bind_some]
  cases c1 : okb l h
  · simp
  · cases c2 : ratb a b
    · simp
    · have k1 := okb_true.mp c1
      have k2 := ratb_true.mp c2
      have h1 := mul_bd (x := l) (y := b) (m := 1073000000) (n := 1000000000) (by omega) (by omega) (by omega) (by omega)
      have h2 := mul_bd (x := h) (y := b) (m := 1073000000) (n := 1000000000) (by omega) (by omega) (by omega) (by omega)
      rw [wrap_id (x := l * b) (by omega) (by omega), wrap_id (x := h * b) (by omega) (by omega), wrap_id (x := a * 1000000000) (by omega) (by omega)]
      by_cases c3 : l * b ≤ a * 1000000000 <;> simp [c3]
theorem toSpan_eq (l h : Int) : laws_toSpan.f l h = some (l, h) := rfl
end FnExactSpanHas
open FnExactSpanHas
theorem FnExactSpanHas (a0_0 a0_1 a1 a2 : Int) : laws_FnExactSpanHas.f a0_0 a0_1 a1 a2 = some true := by
  unfold laws_FnExactSpanHas.f
  simp only [toSpan_eq, Option.bind_some, spec_SpanHas_eq, impl_SpanHas_eq]
  simp
theorem FnExactSpanHas_walk (a0_0 a0_1 a1 a2 : Int) (_ : (Lit.int .i64 a0_0).wf = true) (_ : (Lit.int .i64 a0_1).wf = true) (_ : (Lit.int .i64 a1).wf = true) (_ : (Lit.int .i64 a2).wf = true) (w : World) :
    Calls Try.prog 6 #[.agg #[.int .i64 a0_0, .int .i64 a0_1], .int .i64 a1, .int .i64 a2] w fun e w' => e = .returned (.bool true) ∧ Below w.heap.size w w' :=
  laws_FnExactSpanHas.calls a0_0 a0_1 a1 a2 true w (FnExactSpanHas a0_0 a0_1 a1 a2)
end Go.Proofs.Ytdamlnnoccdhgaa.Pure
