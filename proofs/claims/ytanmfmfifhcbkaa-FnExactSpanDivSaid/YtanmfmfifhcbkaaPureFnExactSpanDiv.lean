/- SpanDiv of the program answers at all spans what the reference's SpanDiv answers; the law's contract. No condition. -/
import Derived.Test.YtanmfmfifhcbkaaQFnExactSpanDivx3
import Derived.Test.YtanmfmfifhcbkaaModel
namespace Go.Proofs.Ytanmfmfifhcbkaa.Pure
open Go.RowKit Go.Proofs.Ytanmfmfifhcbkaa.PFnExactSpanDiv Go.Proofs.YtanmfmfifhcbkaaW.PrintWords Go.Proofs.YtanmfmfifhcbkaaW.PrintLast Go.Proofs.Ytanmfmfifhcbkaa.Math
set_option linter.unusedVariables false
set_option linter.unusedSimpArgs false
namespace FnExactSpanDiv
theorem l6In_eq (a l h : Int) : spec_l6In.f a l h = some (decide (l ≤ a ∧ a ≤ h)) := by
  unfold spec_l6In.f
  by_cases c : a ≥ l
  · rw [if_pos c]; congr 1; rw [decide_eq_decide]; omega
  · rw [if_neg c]; congr 1; symm; rw [decide_eq_false_iff_not]; omega
theorem in_eq (a l h : Int) : impl_in.f a l h = some (decide (l ≤ a ∧ a ≤ h)) := by
  unfold impl_in.f
  by_cases c : l ≤ a
  · rw [if_pos c]; congr 1; rw [decide_eq_decide]; omega
  · rw [if_neg c]; congr 1; symm; rw [decide_eq_false_iff_not]; omega
theorem l1Down_eq {a b : Int} (h0 : -2305843009213693952 ≤ a) (h1 : a ≤ 2305843009213693952) (hb : 1 ≤ b) (hb2 : b ≤ 2305843009213693952) : spec_l1Down.f a b = some (a / b) := by
  unfold spec_l1Down.f
  by_cases c : a ≥ 0
  · rw [if_pos c, if_neg (by omega), tdiv_pos c]
    have := (dn_abs (a := a) (show 0 < b by omega)).1 c
    rw [wrap_id (by omega) (by omega)]
  · rw [if_neg c, if_neg (by omega), wrap_id (x := -a) (by omega) (by omega), wrap_id (x := -a + b) (by omega) (by omega), wrap_id (x := -a + b - 1) (by omega) (by omega), tdiv_pos (by omega)]
    have h2 := (dn_abs (a := -a + b - 1) (show 0 < b by omega)).1 (by omega)
    rw [wrap_id (x := (-a + b - 1) / b) (by omega) (by omega), wrap_id (x := -((-a + b - 1) / b)) (by omega) (by omega), ceil_val (by omega)]
theorem l1Up_eq {a b : Int} (h0 : -2305843009213693952 ≤ a) (h1 : a ≤ 2305843009213693952) (hb : 1 ≤ b) (hb2 : b ≤ 2305843009213693952) : spec_l1Up.f a b = some (up a b) := by
  unfold spec_l1Up.f
  have h2 := dn_abs (a := -a) (show 0 < b by omega)
  rw [wrap_id (x := -a) (by omega) (by omega), l1Down_eq (by omega) (by omega) hb hb2]
  simp only [Option.bind_some]
  rw [wrap_id (x := -(-a / b)) (by omega) (by omega)]
  rfl
theorem down_eq {a b : Int} (h0 : -2305843009213693952 ≤ a) (h1 : a ≤ 2305843009213693952) (hb : 1 ≤ b) : impl_down.f a b = some (a / b) := by
  unfold impl_down.f
  have h2 := tdiv_bd (a := a) (b := b) (m := 2305843009213693952) (by omega) h0 h1
  have h3 := down_val (a := a) (b := b) (by omega)
  rw [if_neg (by omega), wrap_id (x := Int.tdiv a b) (by omega) (by omega), wrap_id (x := Int.tdiv a b - 1) (by omega) (by omega)]
  by_cases c : Int.tmod a b < 0
  · rw [if_pos c] at h3 ⊢; rw [h3]
  · rw [if_neg c] at h3 ⊢; rw [h3]
theorem up_fn {a b : Int} (h0 : -2305843009213693952 ≤ a) (h1 : a ≤ 2305843009213693952) (hb : 1 ≤ b) : impl_up.f a b = some (up a b) := by
  unfold impl_up.f
  have h2 := dn_abs (a := -a) (show 0 < b by omega)
  rw [wrap_id (x := -a) (by omega) (by omega), down_eq (by omega) (by omega) hb]
  simp only [Option.bind_some]
  rw [wrap_id (x := -(-a / b)) (by omega) (by omega)]
  rfl
theorem spec_SpanOk_eq (a b : Int) : spec_SpanOk.f a b = some (okb a b) := by
  unfold spec_SpanOk.f okb
  simp only [l6In_eq, Option.bind_some]
  by_cases c : -1073000000 ≤ a ∧ a ≤ 1073000000
  · rw [decide_eq_true c, if_pos rfl]; congr 1; rw [decide_eq_decide]; omega
  · rw [decide_eq_false c, if_neg (by decide)]; congr 1; symm; rw [decide_eq_false_iff_not]; omega
theorem impl_SpanOk_eq (a b : Int) : impl_SpanOk.f a b = some (okb a b) := by
  unfold impl_SpanOk.f okb
  simp only [in_eq, Option.bind_some]
  by_cases c : -1073000000 ≤ a ∧ a ≤ 1073000000
  · rw [decide_eq_true c, if_pos rfl]
    by_cases c2 : -1073000000 ≤ b ∧ b ≤ 1073000000
    · rw [decide_eq_true c2, if_pos rfl]; congr 1; rw [decide_eq_decide]; omega
    · rw [decide_eq_false c2, if_neg (by decide)]; congr 1; symm; rw [decide_eq_false_iff_not]; omega
  · rw [decide_eq_false c, if_neg (by decide)]; congr 1; symm; rw [decide_eq_false_iff_not]; omega
theorem l2Fit_eq (a b : Int) : spec_l2Fit.f a b = some (told a b) := by
  unfold spec_l2Fit.f told
  rw [spec_SpanOk_eq]
  simp only [Option.bind_some]
  split <;> rfl
theorem told_eq (a b : Int) : impl_told.f a b = some (told a b) := by
  unfold impl_told.f told
  rw [impl_SpanOk_eq]
  simp only [Option.bind_some]
  split <;> rfl
theorem impl_SpanNeg_eq (l h : Int) : impl_SpanNeg.f l h = some (spanNeg l h) := by
  unfold impl_SpanNeg.f spanNeg
  simp only [impl_SpanOk_eq, Option.bind_some]
  cases c1 : okb l h
  · simp
  · have k1 := okb_true.mp c1
    rw [wrap_id (x := -h) (by omega) (by omega), wrap_id (x := -l) (by omega) (by omega)]
    simp
theorem eqSpan_refl (l h : Int) : laws_eqSpan.f l h l h = some true := by
  unfold laws_eqSpan.f
  rw [if_pos rfl, if_pos rfl]
theorem toSpan_eq (l h : Int) : laws_toSpan.f l h = some (l, h) := rfl
theorem over_pos {a b : Int} (h0 : -1073000000 ≤ a) (h1 : a ≤ 1073000000) (hb : 1 ≤ b) (hb2 : b ≤ 1073000000) : spec_l2Over.f a b = some (a * 1000000000 / b, up (a * 1000000000) b) := by
  unfold spec_l2Over.f
  rw [if_neg (by omega), wrap_id (x := a * 1000000000) (by omega) (by omega), l1Down_eq (by omega) (by omega) (by omega) (by omega), l1Up_eq (by omega) (by omega) (by omega) (by omega)]
  rfl
theorem over_neg {a b : Int} (h0 : -1073000000 ≤ a) (h1 : a ≤ 1073000000) (hb : b < 0) (hb2 : -1073000000 ≤ b) : spec_l2Over.f a b = some (-a * 1000000000 / -b, up (-a * 1000000000) (-b)) := by
  unfold spec_l2Over.f
  rw [if_pos hb, wrap_id (x := -a) (by omega) (by omega), wrap_id (x := -b) (by omega) (by omega), wrap_id (x := -a * 1000000000) (by omega) (by omega), l1Down_eq (by omega) (by omega) (by omega) (by omega), l1Up_eq (by omega) (by omega) (by omega) (by omega)]
  rfl
theorem lo4_two (a b c d : Int) (h1 : a ≤ c) (h2 : b ≤ d) : lo4 a b c d = mn a b := by unfold lo4 mn; omega
theorem hi4_two (a b c d : Int) (h1 : a ≤ c) (h2 : b ≤ d) : hi4 a b c d = mx c d := by unfold hi4 mx; omega
theorem lo4_two' (a b c d : Int) (h1 : c ≤ a) (h2 : d ≤ b) : lo4 a b c d = mn d c := by unfold lo4 mn; omega
theorem hi4_two' (a b c d : Int) (h1 : c ≤ a) (h2 : d ≤ b) : hi4 a b c d = mx b a := by unfold hi4 mx; omega
theorem spec_SpanDiv_eq (k : Nat) (hk : 1 ≤ k) (l h l' h' : Int) : spec_SpanDiv.f k l h l' h' = some (spanDiv l h l' h') := by
  obtain ⟨k, rfl⟩ : ∃ j, k = j + 1 := ⟨k - 1, by omega⟩
  unfold spec_SpanDiv.f spanDiv
  simp only [spec_SpanOk_eq, Option.bind_some, spec_SpanDiv.j0]
  cases c1 : okb l h
  · simp
  · cases c2 : okb l' h'
    · simp
    · have k1 := okb_true.mp c1
      have k2 := okb_true.mp c2
      by_cases c3 : l' ≤ 0
      · by_cases c4 : 0 ≤ h'
        · simp [c3, c4]
        · have c5 : h' < 0 := by omega
          rw [over_neg (a := l) (b := l') (by omega) (by omega) (by omega) (by omega), over_neg (a := l) (b := h') (by omega) (by omega) (by omega) (by omega),
            over_neg (a := h) (b := l') (by omega) (by omega) (by omega) (by omega), over_neg (a := h) (b := h') (by omega) (by omega) (by omega) (by omega)]
          unfold spec_l2Four.f divPos
          simp only [Option.bind_some, lo4_fold, hi4_fold]
          rw [lo4_two' _ _ _ _ (dn_mono (by omega) (by omega)) (dn_mono (by omega) (by omega)), hi4_two' _ _ _ _ (up_mono (by omega) (by omega)) (up_mono (by omega) (by omega))]
          simp only [Option.bind_some, l2Fit_eq]
          simp [c3, c4, c5]
      · have c5 : ¬ h' < 0 := by omega
        rw [over_pos (a := l) (b := l') (by omega) (by omega) (by omega) (by omega), over_pos (a := l) (b := h') (by omega) (by omega) (by omega) (by omega),
          over_pos (a := h) (b := l') (by omega) (by omega) (by omega) (by omega), over_pos (a := h) (b := h') (by omega) (by omega) (by omega) (by omega)]
        unfold spec_l2Four.f divPos
        simp only [Option.bind_some, lo4_fold, hi4_fold]
        rw [lo4_two _ _ _ _ (dn_mono (by omega) (by omega)) (dn_mono (by omega) (by omega)), hi4_two _ _ _ _ (up_mono (by omega) (by omega)) (up_mono (by omega) (by omega))]
        simp only [Option.bind_some, l2Fit_eq]
        simp [c3, c5]
theorem impl_div_j1 (k : Nat) (hk : 1 ≤ k) (l h l' h' : Int) (h0 : -1073000000 ≤ l) (h1 : l ≤ 1073000000) (h2 : -1073000000 ≤ h) (h3 : h ≤ 1073000000) (g0 : 1 ≤ l') (g1 : 1 ≤ h') :
    impl_SpanDiv.j1 k l h l' h' = some (divPos l h l' h') := by
  obtain ⟨k, rfl⟩ : ∃ j, k = j + 1 := ⟨k - 1, by omega⟩
  simp only [impl_SpanDiv.j1]
  rw [wrap_id (x := l * 1000000000) (by omega) (by omega), wrap_id (x := h * 1000000000) (by omega) (by omega), down_eq (by omega) (by omega) (by omega), down_eq (by omega) (by omega) (by omega),
    up_fn (by omega) (by omega) (by omega), up_fn (by omega) (by omega) (by omega)]
  simp only [Option.bind_some, told_eq]
  rfl
theorem impl_SpanDiv_eq (k : Nat) (hk : 2 ≤ k) (l h l' h' : Int) : impl_SpanDiv.f k l h l' h' = some (spanDiv l h l' h') := by
  obtain ⟨k, rfl⟩ : ∃ j, k = j + 1 := ⟨k - 1, by omega⟩
  unfold impl_SpanDiv.f spanDiv
  simp only [impl_SpanOk_eq, in_eq, Option.bind_some, impl_SpanDiv.j0]
  cases c1 : okb l h
  · simp
  · cases c2 : okb l' h'
    · simp
    · have k1 := okb_true.mp c1
      have k2 := okb_true.mp c2
      by_cases c3 : l' ≤ 0 ∧ 0 ≤ h'
      · simp [c3]
      · by_cases c5 : h' < 0
        · simp only [impl_SpanNeg_eq, Option.bind_some]
          unfold spanNeg
          rw [if_pos c1, if_pos c2, impl_div_j1 k (by omega) _ _ _ _ (by omega) (by omega) (by omega) (by omega) (by omega) (by omega)]
          simp [c3, c5]
        · rw [impl_div_j1 k (by omega) _ _ _ _ (by omega) (by omega) (by omega) (by omega) (by omega) (by omega)]
          simp [c3, c5]
end FnExactSpanDiv
open FnExactSpanDiv
theorem FnExactSpanDiv (a0_0 a0_1 a1_0 a1_1 : Int) : laws_FnExactSpanDiv.f 2000000002 a0_0 a0_1 a1_0 a1_1 = some true := by
  unfold laws_FnExactSpanDiv.f
  simp only [toSpan_eq, Option.bind_some, spec_SpanDiv_eq 2000000002 (by omega), impl_SpanDiv_eq 2000000002 (by omega), eqSpan_refl]
  simp
theorem FnExactSpanDiv_walk (a0_0 a0_1 a1_0 a1_1 : Int) (_ : (Lit.int .i64 a0_0).wf = true) (_ : (Lit.int .i64 a0_1).wf = true) (h2 : (Lit.int .i64 a1_0).wf = true) (h3 : (Lit.int .i64 a1_1).wf = true) (w : World) :
    Calls Try.prog 12 #[.agg #[.int .i64 a0_0, .int .i64 a0_1], .agg #[.int .i64 a1_0, .int .i64 a1_1]] w fun e w' => e = .returned (.bool true) ∧ Below w.heap.size w w' :=
  laws_FnExactSpanDiv.calls 2000000002 a0_0 a0_1 a1_0 a1_1 true w rfl (FnExactSpanDiv a0_0 a0_1 a1_0 a1_1)
end Go.Proofs.Ytanmfmfifhcbkaa.Pure
