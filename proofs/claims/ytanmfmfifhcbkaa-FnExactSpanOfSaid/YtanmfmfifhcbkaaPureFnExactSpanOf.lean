/- SpanOf of the program answers at all whole numbers of Go's int what the reference's SpanOf answers. No condition. -/
import Derived.Test.YtanmfmfifhcbkaaPFnExactSpanOfx1
import Derived.Test.YtanmfmfifhcbkaaModel
namespace Go.Proofs.Ytanmfmfifhcbkaa.Pure
open Go.RowKit Go.Proofs.Ytanmfmfifhcbkaa.PFnExactSpanOf Go.Proofs.YtanmfmfifhcbkaaW.PrintWords Go.Proofs.YtanmfmfifhcbkaaW.PrintLast Go.Proofs.Ytanmfmfifhcbkaa.Math
set_option linter.unusedVariables false
set_option linter.unusedSimpArgs false
namespace FnExactSpanOf
theorem l6In_eq (a l h : Int) : spec_l6In.f a l h = some (decide (l ≤ a ∧ a ≤ h)) := by
  unfold spec_l6In.f
  by_cases c : a ≥ l
  · rw [if_pos c]; congr 1; rw [decide_eq_decide]; omega
  · rw [if_neg c]; congr 1; symm; rw [decide_eq_false_iff_not]; omega
theorem in_eq (a l h : Int) : impl_in.f a l h = some (decide (l ≤ a ∧ a ≤ h)) := by
  unfold impl_in.f
  by_cases c : l ≤ a
  · rw [if_pos c]; congr 1; rw [decide_eq_decide]; omega
  · rw [if_neg c]; congr 1; symm; rw [decide_eq_false_iff_not]; omega
theorem l1Down_eq {a b : Int} (h0 : -2305843009213693952 ≤ a) (h1 : a ≤ 2305843009213693952) (hb : 1 ≤ b) (hb2 : b ≤ 2305843009213693952) : spec_l1Down.f a b = some (a / b) := by
  unfold spec_l1Down.f
  by_cases c : a ≥ 0
  · rw [if_pos c, if_neg (by omega), tdiv_pos c]
    have := (dn_abs (a := a) (show 0 < b by omega)).1 c
    rw [wrap_id (by omega) (by omega)]
  · rw [if_neg c, if_neg (by omega), wrap_id (x := -a) (by omega) (by omega), wrap_id (x := -a + b) (by omega) (by omega), wrap_id (x := -a + b - 1) (by omega) (by omega), tdiv_pos (by omega)]
    have h2 := (dn_abs (a := -a + b - 1) (show 0 < b by omega)).1 (by omega)
    rw [wrap_id (x := (-a + b - 1) / b) (by omega) (by omega), wrap_id (x := -((-a + b - 1) / b)) (by omega) (by omega), ceil_val (by omega)]
theorem l1Up_eq {a b : Int} (h0 : -2305843009213693952 ≤ a) (h1 : a ≤ 2305843009213693952) (hb : 1 ≤ b) (hb2 : b ≤ 2305843009213693952) : spec_l1Up.f a b = some (up a b) := by
  unfold spec_l1Up.f
  have h2 := dn_abs (a := -a) (show 0 < b by omega)
  rw [wrap_id (x := -a) (by omega) (by omega), l1Down_eq (by omega) (by omega) hb hb2]
  simp only [Option.bind_some]
  rw [wrap_id (x := -(-a / b)) (by omega) (by omega)]
  rfl
theorem down_eq {a b : Int} (h0 : -2305843009213693952 ≤ a) (h1 : a ≤ 2305843009213693952) (hb : 1 ≤ b) : impl_down.f a b = some (a / b) := by
  unfold impl_down.f
  have h2 := tdiv_bd (a := a) (b := b) (m := 2305843009213693952) (by omega) h0 h1
  have h3 := down_val (a := a) (b := b) (by omega)
  rw [if_neg (by omega), wrap_id (x := Int.tdiv a b) (by omega) (by omega), wrap_id (x := Int.tdiv a b - 1) (by omega) (by omega)]
  by_cases c : Int.tmod a b < 0
  · rw [if_pos c] at h3 ⊢; rw [h3]
  · rw [if_neg c] at h3 ⊢; rw [h3]
theorem up_fn {a b : Int} (h0 : -2305843009213693952 ≤ a) (h1 : a ≤ 2305843009213693952) (hb : 1 ≤ b) : impl_up.f a b = some (up a b) := by
  unfold impl_up.f
  have h2 := dn_abs (a := -a) (show 0 < b by omega)
  rw [wrap_id (x := -a) (by omega) (by omega), down_eq (by omega) (by omega) hb]
  simp only [Option.bind_some]
  rw [wrap_id (x := -(-a / b)) (by omega) (by omega)]
  rfl
theorem spec_SpanOk_eq (a b : Int) : spec_SpanOk.f a b = some (okb a b) := by
  unfold spec_SpanOk.f okb
  simp only [l6In_eq, Option.bind_some]
  by_cases c : -1073000000 ≤ a ∧ a ≤ 1073000000
  · rw [decide_eq_true c, if_pos rfl]; congr 1; rw [decide_eq_decide]; omega
  · rw [decide_eq_false c, if_neg (by decide)]; congr 1; symm; rw [decide_eq_false_iff_not]; omega
theorem impl_SpanOk_eq (a b : Int) : impl_SpanOk.f a b = some (okb a b) := by
  unfold impl_SpanOk.f okb
  simp only [in_eq, Option.bind_some]
  by_cases c : -1073000000 ≤ a ∧ a ≤ 1073000000
  · rw [decide_eq_true c, if_pos rfl]
    by_cases c2 : -1073000000 ≤ b ∧ b ≤ 1073000000
    · rw [decide_eq_true c2, if_pos rfl]; congr 1; rw [decide_eq_decide]; omega
    · rw [decide_eq_false c2, if_neg (by decide)]; congr 1; symm; rw [decide_eq_false_iff_not]; omega
  · rw [decide_eq_false c, if_neg (by decide)]; congr 1; symm; rw [decide_eq_false_iff_not]; omega
theorem l2Fit_eq (a b : Int) : spec_l2Fit.f a b = some (told a b) := by
  unfold spec_l2Fit.f told
  rw [spec_SpanOk_eq]
  simp only [Option.bind_some]
  split <;> rfl
theorem told_eq (a b : Int) : impl_told.f a b = some (told a b) := by
  unfold impl_told.f told
  rw [impl_SpanOk_eq]
  simp only [Option.bind_some]
  split <;> rfl
theorem l2Rat_eq (a b : Int) : spec_l2Rat.f a b = some (ratb a b) := by
  unfold spec_l2Rat.f ratb
  simp only [l6In_eq, Option.bind_some]
  by_cases c : -1000000000 ≤ a ∧ a ≤ 1000000000
  · rw [decide_eq_true c, if_pos rfl]; congr 1; rw [decide_eq_decide]; omega
  · rw [decide_eq_false c, if_neg (by decide)]; congr 1; symm; rw [decide_eq_false_iff_not]; omega
theorem isNumber_eq (a b : Int) : impl_isNumber.f a b = some (ratb a b) := by
  unfold impl_isNumber.f ratb
  simp only [in_eq, Option.bind_some]
  by_cases c : -1000000000 ≤ a ∧ a ≤ 1000000000
  · rw [decide_eq_true c, if_pos rfl]; congr 1; rw [decide_eq_decide]; omega
  · rw [decide_eq_false c, if_neg (by decide)]; congr 1; symm; rw [decide_eq_false_iff_not]; omega
theorem eqSpan_refl (l h : Int) : laws_eqSpan.f l h l h = some true := by
  unfold laws_eqSpan.f
  rw [if_pos rfl, if_pos rfl]
theorem spec_SpanOf_eq (a b : Int) : spec_SpanOf.f a b = some (spanOf a b) := by
  unfold spec_SpanOf.f spanOf
  simp only [l2Rat_eq, Option.bind_some]
  cases c : ratb a b
  · simp
  · have h := ratb_true.mp c
    rw [wrap_id (x := a * 1000000000) (by omega) (by omega), l1Down_eq (by omega) (by omega) (by omega) (by omega), l1Up_eq (by omega) (by omega) (by omega) (by omega)]
    simp only [Option.bind_some, l2Fit_eq, if_true]
theorem impl_SpanOf_eq (a b : Int) : impl_SpanOf.f a b = some (spanOf a b) := by
  unfold impl_SpanOf.f spanOf
  simp only [isNumber_eq, Option.bind_some]
  cases c : ratb a b
  · simp
  · have h := ratb_true.mp c
    rw [wrap_id (x := a * 1000000000) (by omega) (by omega), down_eq (by omega) (by omega) (by omega), up_fn (by omega) (by omega) (by omega)]
    simp only [Option.bind_some, told_eq, if_true]
end FnExactSpanOf
open FnExactSpanOf
theorem FnExactSpanOf : laws_FnExactSpanOf.Pure := by
  intro a0 a1 h0 h1
  unfold laws_FnExactSpanOf.f
  simp only [spec_SpanOf_eq, impl_SpanOf_eq, Option.bind_some, eqSpan_refl]
  simp
end Go.Proofs.Ytanmfmfifhcbkaa.Pure
