/- SpanMul of the program answers at all spans what the reference's SpanMul answers; the law's contract. No condition. -/
import Derived.Test.YtanmfmfifhcbkaaQFnExactSpanMulx2
import Derived.Test.YtanmfmfifhcbkaaModel
namespace Go.Proofs.Ytanmfmfifhcbkaa.Pure
open Go.RowKit Go.Proofs.Ytanmfmfifhcbkaa.PFnExactSpanMul Go.Proofs.YtanmfmfifhcbkaaW.PrintWords Go.Proofs.YtanmfmfifhcbkaaW.PrintLast Go.Proofs.Ytanmfmfifhcbkaa.Math
set_option linter.unusedVariables false
set_option linter.unusedSimpArgs false
namespace FnExactSpanMul
theorem l6In_eq (a l h : Int) : spec_l6In.f a l h = some (decide (l ≤ a ∧ a ≤ h)) := by
  unfold spec_l6In.f
  by_cases c : a ≥ l
  · rw [if_pos c]; congr 1; rw [decide_eq_decide]; omega
  · rw [if_neg c]; congr 1; symm; rw [decide_eq_false_iff_not]; omega
theorem in_eq (a l h : Int) : impl_in.f a l h = some (decide (l ≤ a ∧ a ≤ h)) := by
  unfold impl_in.f
  by_cases c : l ≤ a
  · rw [if_pos c]; congr 1; rw [decide_eq_decide]; omega
  · rw [if_neg c]; congr 1; symm; rw [decide_eq_false_iff_not]; omega
theorem l1Down_eq {a b : Int} (h0 : -2305843009213693952 ≤ a) (h1 : a ≤ 2305843009213693952) (hb : 1 ≤ b) (hb2 : b ≤ 2305843009213693952) : spec_l1Down.f a b = some (a / b) := by
  unfold spec_l1Down.f
  by_cases c : a ≥ 0
  · rw [if_pos c, if_neg (by omega), tdiv_pos c]
    have := (dn_abs (a := a) (show 0 < b by omega)).1 c
    rw [wrap_id (by omega) (by omega)]
  · rw [if_neg c, if_neg (by omega), wrap_id (x := -a) (by omega) (by omega), wrap_id (x := -a + b) (by omega) (by omega), wrap_id (x := -a + b - 1) (by omega) (by omega), tdiv_pos (by omega)]
    have h2 := (dn_abs (a := -a + b - 1) (show 0 < b by omega)).1 (by omega)
    rw [wrap_id (x := (-a + b - 1) / b) (by omega) (by omega), wrap_id (x := -((-a + b - 1) / b)) (by omega) (by omega), ceil_val (by omega)]
theorem l1Up_eq {a b : Int} (h0 : -2305843009213693952 ≤ a) (h1 : a ≤ 2305843009213693952) (hb : 1 ≤ b) (hb2 : b ≤ 2305843009213693952) : spec_l1Up.f a b = some (up a b) := by
  unfold spec_l1Up.f
  have h2 := dn_abs (a := -a) (show 0 < b by omega)
  rw [wrap_id (x := -a) (by omega) (by omega), l1Down_eq (by omega) (by omega) hb hb2]
  simp only [Option.bind_some]
  rw [wrap_id (x := -(-a / b)) (by omega) (by omega)]
  rfl
theorem down_eq {a b : Int} (h0 : -2305843009213693952 ≤ a) (h1 : a ≤ 2305843009213693952) (hb : 1 ≤ b) : impl_down.f a b = some (a / b) := by
  unfold impl_down.f
  have h2 := tdiv_bd (a := a) (b := b) (m := 2305843009213693952) (by omega) h0 h1
  have h3 := down_val (a := a) (b := b) (by omega)
  rw [if_neg (by omega), wrap_id (x := Int.tdiv a b) (by omega) (by omega), wrap_id (x := Int.tdiv a b - 1) (by omega) (by omega)]
  by_cases c : Int.tmod a b < 0
  · rw [if_pos c] at h3 ⊢; rw [h3]
  · rw [if_neg c] at h3 ⊢; rw [h3]
theorem up_fn {a b : Int} (h0 : -2305843009213693952 ≤ a) (h1 : a ≤ 2305843009213693952) (hb : 1 ≤ b) : impl_up.f a b = some (up a b) := by
  unfold impl_up.f
  have h2 := dn_abs (a := -a) (show 0 < b by omega)
  rw [wrap_id (x := -a) (by omega) (by omega), down_eq (by omega) (by omega) hb]
  simp only [Option.bind_some]
  rw [wrap_id (x := -(-a / b)) (by omega) (by omega)]
  rfl
theorem spec_SpanOk_eq (a b : Int) : spec_SpanOk.f a b = some (okb a b) := by
  unfold spec_SpanOk.f okb
  simp only [l6In_eq, Option.bind_some]
  by_cases c : -1073000000 ≤ a ∧ a ≤ 1073000000
  · rw [decide_eq_true c, if_pos rfl]; congr 1; rw [decide_eq_decide]; omega
  · rw [decide_eq_false c, if_neg (by decide)]; congr 1; symm; rw [decide_eq_false_iff_not]; omega
theorem impl_SpanOk_eq (a b : Int) : impl_SpanOk.f a b = some (okb a b) := by
  unfold impl_SpanOk.f okb
  simp only [in_eq, Option.bind_some]
  by_cases c : -1073000000 ≤ a ∧ a ≤ 1073000000
  · rw [decide_eq_true c, if_pos rfl]
    by_cases c2 : -1073000000 ≤ b ∧ b ≤ 1073000000
    · rw [decide_eq_true c2, if_pos rfl]; congr 1; rw [decide_eq_decide]; omega
    · rw [decide_eq_false c2, if_neg (by decide)]; congr 1; symm; rw [decide_eq_false_iff_not]; omega
  · rw [decide_eq_false c, if_neg (by decide)]; congr 1; symm; rw [decide_eq_false_iff_not]; omega
theorem l2Fit_eq (a b : Int) : spec_l2Fit.f a b = some (told a b) := by
  unfold spec_l2Fit.f told
  rw [spec_SpanOk_eq]
  simp only [Option.bind_some]
  split <;> rfl
theorem told_eq (a b : Int) : impl_told.f a b = some (told a b) := by
  unfold impl_told.f told
  rw [impl_SpanOk_eq]
  simp only [Option.bind_some]
  split <;> rfl
theorem eqSpan_refl (l h : Int) : laws_eqSpan.f l h l h = some true := by
  unfold laws_eqSpan.f
  rw [if_pos rfl, if_pos rfl]
theorem toSpan_eq (l h : Int) : laws_toSpan.f l h = some (l, h) := rfl
theorem mul_ok {l h l' h' : Int} (c1 : okb l h = true) (c2 : okb l' h' = true) :
    wrap64 (l * l') = l * l' ∧ wrap64 (l * h') = l * h' ∧ wrap64 (h * l') = h * l' ∧ wrap64 (h * h') = h * h' ∧
    (-1151329000000000000 ≤ lo4 (l * l') (l * h') (h * l') (h * h') ∧ lo4 (l * l') (l * h') (h * l') (h * h') ≤ 1151329000000000000) ∧
    (-1151329000000000000 ≤ hi4 (l * l') (l * h') (h * l') (h * h') ∧ hi4 (l * l') (l * h') (h * l') (h * h') ≤ 1151329000000000000) := by
  have k1 := okb_true.mp c1
  have k2 := okb_true.mp c2
  have e1 := mul_bd (x := l) (y := l') (m := 1073000000) (n := 1073000000) (by omega) (by omega) (by omega) (by omega)
  have e2 := mul_bd (x := l) (y := h') (m := 1073000000) (n := 1073000000) (by omega) (by omega) (by omega) (by omega)
  have e3 := mul_bd (x := h) (y := l') (m := 1073000000) (n := 1073000000) (by omega) (by omega) (by omega) (by omega)
  have e4 := mul_bd (x := h) (y := h') (m := 1073000000) (n := 1073000000) (by omega) (by omega) (by omega) (by omega)
  have g1 := lo4_in (l * l') (l * h') (h * l') (h * h')
  have g2 := hi4_in (l * l') (l * h') (h * l') (h * h')
  refine ⟨wrap_id (by omega) (by omega), wrap_id (by omega) (by omega), wrap_id (by omega) (by omega), wrap_id (by omega) (by omega), ⟨by omega, by omega⟩, by omega, by omega⟩
theorem spec_SpanMul_eq (k : Nat) (hk : 1 ≤ k) (l h l' h' : Int) : spec_SpanMul.f k l h l' h' = some (spanMul l h l' h') := by
  obtain ⟨k, rfl⟩ : ∃ j, k = j + 1 := ⟨k - 1, by omega⟩
  unfold spec_SpanMul.f spanMul
  simp only [spec_SpanOk_eq, Option.bind_some, spec_SpanMul.j0]
  cases c1 : okb l h
  · simp
  · cases c2 : okb l' h'
    · simp
    · obtain ⟨w1, w2, w3, w4, b1, b2⟩ := mul_ok c1 c2
      rw [w1, w2, w3, w4]
      unfold spec_l2Four.f
      simp only [Option.bind_some, lo4_fold, hi4_fold]
      rw [l1Down_eq (by omega) (by omega) (by omega) (by omega), l1Up_eq (by omega) (by omega) (by omega) (by omega)]
      simp only [Option.bind_some, l2Fit_eq]
      simp
theorem mul_ok2 {l h l' h' : Int} (c1 : okb l h = true) (c2 : okb l' h' = true) :
    wrap64 (l * l') = l * l' ∧ wrap64 (l * h') = l * h' ∧ wrap64 (h * l') = h * l' ∧ wrap64 (h * h') = h * h' ∧
    (-1151329000000000000 ≤ lo4 (l * l') (l * h') (h * l') (h * h') ∧ lo4 (l * l') (l * h') (h * l') (h * h') ≤ 1151329000000000000) ∧
    (-1151329000000000000 ≤ hi4 (l * l') (l * h') (h * l') (h * h') ∧ hi4 (l * l') (l * h') (h * l') (h * h') ≤ 1151329000000000000) := by
  have k1 := okb_true.mp c1
  have k2 := okb_true.mp c2
  have e1 := mul_bd (x := l) (y := l') (m := 1073000000) (n := 1073000000) (by omega) (by omega) (by omega) (by omega)
  have e2 := mul_bd (x := l) (y := h') (m := 1073000000) (n := 1073000000) (by omega) (by omega) (by omega) (by omega)
  have e3 := mul_bd (x := h) (y := l') (m := 1073000000) (n := 1073000000) (by omega) (by omega) (by omega) (by omega)
  have e4 := mul_bd (x := h) (y := h') (m := 1073000000) (n := 1073000000) (by omega) (by omega) (by omega) (by omega)
  have g1 := lo4_in (l * l') (l * h') (h * l') (h * h')
  have g2 := hi4_in (l * l') (l * h') (h * l') (h * h')
  refine ⟨wrap_id (by omega) (by omega), wrap_id (by omega) (by omega), wrap_id (by omega) (by omega), wrap_id (by omega) (by omega), ⟨by omega, by omega⟩, by omega, by omega⟩
theorem impl_SpanMul_eq (k : Nat) (hk : 1 ≤ k) (l h l' h' : Int) : impl_SpanMul.f k l h l' h' = some (spanMul l h l' h') := by
  obtain ⟨k, rfl⟩ : ∃ j, k = j + 1 := ⟨k - 1, by omega⟩
  unfold impl_SpanMul.f spanMul
  simp only [impl_SpanOk_eq, Option.bind_some, impl_SpanMul.j0]
  cases c1 : okb l h
  · simp
  · cases c2 : okb l' h'
    · simp
    · obtain ⟨w1, w2, w3, w4, b1, b2⟩ := mul_ok2 c1 c2
      rw [w1, w2, w3, w4, lo4_chain, hi4_chain, down_eq (by omega) (by omega) (by omega), up_fn (by omega) (by omega) (by omega)]
      simp only [Option.bind_some, told_eq]
      simp
end FnExactSpanMul
open FnExactSpanMul
theorem FnExactSpanMul (a0_0 a0_1 a1_0 a1_1 : Int) : laws_FnExactSpanMul.f 2000000002 a0_0 a0_1 a1_0 a1_1 = some true := by
  unfold laws_FnExactSpanMul.f
  simp only [toSpan_eq, Option.bind_some, spec_SpanMul_eq 2000000002 (by omega), impl_SpanMul_eq 2000000002 (by omega), eqSpan_refl]
  simp
theorem FnExactSpanMul_walk (a0_0 a0_1 a1_0 a1_1 : Int) (_ : (Lit.int .i64 a0_0).wf = true) (_ : (Lit.int .i64 a0_1).wf = true) (h2 : (Lit.int .i64 a1_0).wf = true) (h3 : (Lit.int .i64 a1_1).wf = true) (w : World) :
    Calls Try.prog 6 #[.agg #[.int .i64 a0_0, .int .i64 a0_1], .agg #[.int .i64 a1_0, .int .i64 a1_1]] w fun e w' => e = .returned (.bool true) ∧ Below w.heap.size w w' :=
  laws_FnExactSpanMul.calls 2000000002 a0_0 a0_1 a1_0 a1_1 true w rfl (FnExactSpanMul a0_0 a0_1 a1_0 a1_1)
end Go.Proofs.Ytanmfmfifhcbkaa.Pure
