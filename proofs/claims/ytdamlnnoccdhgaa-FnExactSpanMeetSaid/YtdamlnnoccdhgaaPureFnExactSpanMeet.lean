/- SpanMeet of the program answers at all spans what the reference's SpanMeet answers; the law's contract. No condition. -/
import Derived.Test.YtdamlnnoccdhgaaQFnExactSpanMeetx2
import Derived.Test.YtdamlnnoccdhgaaModel
namespace Go.Proofs.Ytdamlnnoccdhgaa.Pure
open Go.RowKit Go.Proofs.Ytdamlnnoccdhgaa.PFnExactSpanMeet Go.Proofs.YtdamlnnoccdhgaaW.PrintWords Go.Proofs.YtdamlnnoccdhgaaW.PrintLast Go.Proofs.Ytdamlnnoccdhgaa.Math
set_option linter.unusedVariables false
set_option linter.unusedSimpArgs false
namespace FnExactSpanMeet
theorem l6In_eq (a l h : Int) : spec_l6In.f a l h = some (decide (l ≤ a ∧ a ≤ h)) := by
  unfold spec_l6In.f
  by_cases c : a ≥ l
  · rw [if_pos c]; congr 1; rw [decide_eq_decide]; omega
  · rw [if_neg c]; congr 1; symm; rw [decide_eq_false_iff_not]; omega
theorem in_eq (a l h : Int) : impl_in.f a l h = some (decide (l ≤ a ∧ a ≤ h)) := by
  unfold impl_in.f
  by_cases c : l ≤ a
  · rw [if_pos c]; congr 1; rw [decide_eq_decide]; omega
  · rw [if_neg c]; congr 1; symm; rw [decide_eq_false_iff_not]; omega
theorem spec_SpanOk_eq (a b : Int) : spec_SpanOk.f a b = some (okb a b) := by
  unfold spec_SpanOk.f okb
  simp only [l6In_eq, Option.bind_some]
  by_cases c : -1073000000 ≤ a ∧ a ≤ 1073000000
  · rw [decide_eq_true c, if_pos rfl]; congr 1; rw [decide_eq_decide]; omega
  · rw [decide_eq_false c, if_neg (by decide)]; congr 1; symm; rw [decide_eq_false_iff_not]; omega
theorem impl_SpanOk_eq (a b : Int) : impl_SpanOk.f a b = some (okb a b) := by
  unfold impl_SpanOk.f okb
  simp only [in_eq, Option.bind_some]
  by_cases c : -1073000000 ≤ a ∧ a ≤ 1073000000
  · rw [decide_eq_true c, if_pos rfl]
    by_cases c2 : -1073000000 ≤ b ∧ b ≤ 1073000000
    · rw [decide_eq_true c2, if_pos rfl]; congr 1; rw [decide_eq_decide]; omega
    · rw [decide_eq_false c2, if_neg (by decide)]; congr 1; symm; rw [decide_eq_false_iff_not]; omega
  · rw [decide_eq_false c, if_neg (by decide)]; congr 1; symm; rw [decide_eq_false_iff_not]; omega
theorem l2Fit_eq (a b : Int) : spec_l2Fit.f a b = some (told a b) := by
  unfold spec_l2Fit.f told
  rw [spec_SpanOk_eq]
  simp only [Option.bind_some]
  split <;> rfl
theorem told_eq (a b : Int) : impl_told.f a b = some (told a b) := by
  unfold impl_told.f told
  rw [impl_SpanOk_eq]
  simp only [Option.bind_some]
  split <;> rfl
theorem eqSpan_refl (l h : Int) : laws_eqSpan.f l h l h = some true := by
  unfold laws_eqSpan.f
  rw [if_pos rfl, if_pos rfl]
theorem toSpan_eq (l h : Int) : laws_toSpan.f l h = some (l, h) := rfl
theorem spec_SpanMeet_eq (l h l' h' : Int) : spec_SpanMeet.f l h l' h' = some (spanMeet l h l' h') := by
  unfold spec_SpanMeet.f spanMeet
  simp only [spec_SpanOk_eq, l2Fit_eq, Option.bind_some]
  cases c1 : okb l h <;> cases c2 : okb l' h' <;> simp
theorem impl_SpanMeet_eq (l h l' h' : Int) : impl_SpanMeet.f l h l' h' = some (spanMeet l h l' h') := by
  unfold impl_SpanMeet.f spanMeet
  simp only [impl_SpanOk_eq, told_eq, Option.bind_some]
  cases c1 : okb l h <;> cases c2 : okb l' h' <;> simp
end FnExactSpanMeet
open FnExactSpanMeet
theorem FnExactSpanMeet (a0_0 a0_1 a1_0 a1_1 : Int) : laws_FnExactSpanMeet.f a0_0 a0_1 a1_0 a1_1 = some true := by
  unfold laws_FnExactSpanMeet.f
  simp only [toSpan_eq, Option.bind_some, spec_SpanMeet_eq, impl_SpanMeet_eq, eqSpan_refl]
  simp
theorem FnExactSpanMeet_walk (a0_0 a0_1 a1_0 a1_1 : Int) (_ : (Lit.int .i64 a0_0).wf = true) (_ : (Lit.int .i64 a0_1).wf = true) (h2 : (Lit.int .i64 a1_0).wf = true) (h3 : (Lit.int .i64 a1_1).wf = true) (w : World) :
    Calls Try.prog 12 #[.agg #[.int .i64 a0_0, .int .i64 a0_1], .agg #[.int .i64 a1_0, .int .i64 a1_1]] w fun e w' => e = .returned (.bool true) ∧ Below w.heap.size w w' :=
  laws_FnExactSpanMeet.calls a0_0 a0_1 a1_0 a1_1 true w rfl (FnExactSpanMeet a0_0 a0_1 a1_0 a1_1)
end Go.Proofs.Ytdamlnnoccdhgaa.Pure
