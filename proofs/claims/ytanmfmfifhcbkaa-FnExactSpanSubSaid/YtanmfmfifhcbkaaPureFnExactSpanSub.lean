/- SpanSub of the program answers at all spans what the reference's SpanSub answers; the law's contract. No condition. -/
import Derived.Test.YtanmfmfifhcbkaaQFnExactSpanSubx2
import Derived.Test.YtanmfmfifhcbkaaModel
namespace Go.Proofs.Ytanmfmfifhcbkaa.Pure
open Go.RowKit Go.Proofs.Ytanmfmfifhcbkaa.PFnExactSpanSub Go.Proofs.YtanmfmfifhcbkaaW.PrintWords Go.Proofs.YtanmfmfifhcbkaaW.PrintLast Go.Proofs.Ytanmfmfifhcbkaa.Math
set_option linter.unusedVariables false
set_option linter.unusedSimpArgs false
namespace FnExactSpanSub
theorem l6In_eq (a l h : Int) : spec_l6In.f a l h = some (decide (l ≤ a ∧ a ≤ h)) := by
  unfold spec_l6In.f
  by_cases c : a ≥ l
  · rw [if_pos c]; congr 1; rw [decide_eq_decide]; omega
  · rw [if_neg c]; congr 1; symm; rw [decide_eq_false_iff_not]; omega
theorem in_eq (a l h : Int) : impl_in.f a l h = some (decide (l ≤ a ∧ a ≤ h)) := by
  unfold impl_in.f
  by_cases c : l ≤ a
  · rw [if_pos c]; congr 1; rw [decide_eq_decide]; omega
  · rw [if_neg c]; congr 1; symm; rw [decide_eq_false_iff_not]; omega
theorem spec_SpanOk_eq (a b : Int) : spec_SpanOk.f a b = some (okb a b) := by
  unfold spec_SpanOk.f okb
  simp only [l6In_eq, Option.bind_some]
  by_cases c : -1073000000 ≤ a ∧ a ≤ 1073000000
  · rw [decide_eq_true c, if_pos rfl]; congr 1; rw [decide_eq_decide]; omega
  · rw [decide_eq_false c, if_neg (by decide)]; congr 1; symm; rw [decide_eq_false_iff_not]; omega
theorem impl_SpanOk_eq (a b : Int) : impl_SpanOk.f a b = some (okb a b) := by
  unfold impl_SpanOk.f okb
  simp only [in_eq, Option.bind_some]
  by_cases c : -1073000000 ≤ a ∧ a ≤ 1073000000
  · rw [decide_eq_true c, if_pos rfl]
    by_cases c2 : -1073000000 ≤ b ∧ b ≤ 1073000000
    · rw [decide_eq_true c2, if_pos rfl]; congr 1; rw [decide_eq_decide]; omega
    · rw [decide_eq_false c2, if_neg (by decide)]; congr 1; symm; rw [decide_eq_false_iff_not]; omega
  · rw [decide_eq_false c, if_neg (by decide)]; congr 1; symm; rw [decide_eq_false_iff_not]; omega
theorem l2Fit_eq (a b : Int) : spec_l2Fit.f a b = some (told a b) := by
  unfold spec_l2Fit.f told
  rw [spec_SpanOk_eq]
  simp only [Option.bind_some]
  split <;> rfl
theorem told_eq (a b : Int) : impl_told.f a b = some (told a b) := by
  unfold impl_told.f told
  rw [impl_SpanOk_eq]
  simp only [Option.bind_some]
  split <;> rfl
theorem impl_SpanNeg_eq (l h : Int) : impl_SpanNeg.f l h = some (spanNeg l h) := by
  unfold impl_SpanNeg.f spanNeg
  simp only [impl_SpanOk_eq, Option.bind_some]
  cases c1 : okb l h
  · simp
  · have k1 := okb_true.mp c1
    rw [wrap_id (x := -h) (by omega) (by omega), wrap_id (x := -l) (by omega) (by omega)]
    simp
theorem eqSpan_refl (l h : Int) : laws_eqSpan.f l h l h = some true := by
  unfold laws_eqSpan.f
  rw [if_pos rfl, if_pos rfl]
theorem toSpan_eq (l h : Int) : laws_toSpan.f l h = some (l, h) := rfl
theorem spec_SpanAdd_eq (l h l' h' : Int) : spec_SpanAdd.f l h l' h' = some (spanAdd l h l' h') := by
  unfold spec_SpanAdd.f spanAdd
  simp only [spec_SpanOk_eq, l2Fit_eq, Option.bind_some]
  cases c1 : okb l h
  · simp
  · cases c2 : okb l' h'
    · simp
    · have k1 := okb_true.mp c1
      have k2 := okb_true.mp c2
      rw [wrap_id (x := l + l') (by omega) (by omega), wrap_id (x := h + h') (by omega) (by omega)]
      simp
theorem impl_SpanAdd_eq (l h l' h' : Int) : impl_SpanAdd.f l h l' h' = some (spanAdd l h l' h') := by
  unfold impl_SpanAdd.f spanAdd
  simp only [impl_SpanOk_eq, told_eq, Option.bind_some]
  cases c1 : okb l h
  · simp
  · cases c2 : okb l' h'
    · simp
    · have k1 := okb_true.mp c1
      have k2 := okb_true.mp c2
      rw [wrap_id (x := l + l') (by omega) (by omega), wrap_id (x := h + h') (by omega) (by omega)]
      simp
theorem spec_SpanSub_eq (l h l' h' : Int) (g0 : I64 l') (g1 : I64 h') : spec_SpanSub.f l h l' h' = some (spanSub l h l' h') := by
  unfold spec_SpanSub.f spanSub
  rw [spec_SpanAdd_eq]
  simp only [Option.bind_some]
  unfold spanAdd
  have e : okb (wrap64 (-h')) (wrap64 (-l')) = okb l' h' := by
    unfold okb; rw [decide_eq_decide]; unfold I64 at g0 g1; unfold wrap64; omega
  rw [e]
  cases c1 : okb l h
  · simp
  · cases c2 : okb l' h'
    · simp
    · have k1 := okb_true.mp c1
      have k2 := okb_true.mp c2
      rw [wrap_id (x := -h') (by omega) (by omega), wrap_id (x := -l') (by omega) (by omega), show l + -h' = l - h' by omega, show h + -l' = h - l' by omega]
theorem impl_SpanSub_eq (l h l' h' : Int) : impl_SpanSub.f l h l' h' = some (spanSub l h l' h') := by
  unfold impl_SpanSub.f spanSub
  simp only [impl_SpanOk_eq, impl_SpanNeg_eq, impl_SpanAdd_eq, Option.bind_some]
  cases c2 : okb l' h'
  · simp
  · have k2 := okb_true.mp c2
    unfold spanNeg spanAdd
    rw [if_pos c2]
    have e : okb (-h') (-l') = true := okb_true.mpr (by omega)
    simp only [e, if_true, show l + -h' = l - h' by omega, show h + -l' = h - l' by omega]
end FnExactSpanSub
open FnExactSpanSub
theorem FnExactSpanSub (a0_0 a0_1 a1_0 a1_1 : Int) (h2 : I64 a1_0) (h3 : I64 a1_1) : laws_FnExactSpanSub.f a0_0 a0_1 a1_0 a1_1 = some true := by
  unfold laws_FnExactSpanSub.f
  simp only [toSpan_eq, Option.bind_some, spec_SpanSub_eq _ _ _ _ h2 h3, impl_SpanSub_eq, eqSpan_refl]
  simp
theorem FnExactSpanSub_walk (a0_0 a0_1 a1_0 a1_1 : Int) (_ : (Lit.int .i64 a0_0).wf = true) (_ : (Lit.int .i64 a0_1).wf = true) (h2 : (Lit.int .i64 a1_0).wf = true) (h3 : (Lit.int .i64 a1_1).wf = true) (w : World) :
    Calls Try.prog 4 #[.agg #[.int .i64 a0_0, .int .i64 a0_1], .agg #[.int .i64 a1_0, .int .i64 a1_1]] w fun e w' => e = .returned (.bool true) ∧ Below w.heap.size w w' :=
  laws_FnExactSpanSub.calls a0_0 a0_1 a1_0 a1_1 true w rfl (FnExactSpanSub a0_0 a0_1 a1_0 a1_1 (i64_of h2) (i64_of h3))
end Go.Proofs.Ytanmfmfifhcbkaa.Pure
