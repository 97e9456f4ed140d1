/- SpanRoot of the program answers at all spans what the reference's SpanRoot answers; the law's contract. No condition. -/
import Derived.Test.YtanmfmfifhcbkaaPFnExactSpanRootx2
import Derived.Test.YtanmfmfifhcbkaaModel
namespace Go.Proofs.Ytanmfmfifhcbkaa.Pure
open Go.RowKit Go.Proofs.Ytanmfmfifhcbkaa.PFnExactSpanRoot Go.Proofs.YtanmfmfifhcbkaaW.PrintWords Go.Proofs.YtanmfmfifhcbkaaW.PrintLast Go.Proofs.Ytanmfmfifhcbkaa.Math
set_option linter.unusedVariables false
set_option linter.unusedSimpArgs false
namespace FnExactSpanRoot
theorem l6In_eq (a l h : Int) : spec_l6In.f a l h = some (decide (l ≤ a ∧ a ≤ h)) := by
  unfold spec_l6In.f
  by_cases c : a ≥ l
  · rw [if_pos c]; congr 1; rw [decide_eq_decide]; omega
  · rw [if_neg c]; congr 1; symm; rw [decide_eq_false_iff_not]; omega
theorem in_eq (a l h : Int) : impl_in.f a l h = some (decide (l ≤ a ∧ a ≤ h)) := by
  unfold impl_in.f
  by_cases c : l ≤ a
  · rw [if_pos c]; congr 1; rw [decide_eq_decide]; omega
  · rw [if_neg c]; congr 1; symm; rw [decide_eq_false_iff_not]; omega
theorem spec_root_l0 (a : Int) (ha : a ≤ 1152921504606846976) (d : Nat) : ∀ (k : Nat) (lo hi : Int), 0 ≤ lo → lo < hi → hi ≤ 1073741825 → lo * lo ≤ a → a < hi * hi → hi - lo ≤ d → d < k →
    spec_l1Root.l0 k a lo hi = some (isq a) := by
  induction d with
  | zero => intro k lo hi h0 h1 h2 h3 h4 h5 h6; omega
  | succ d ih =>
    intro k lo hi h0 h1 h2 h3 h4 h5 h6
    obtain ⟨k, rfl⟩ : ∃ m, k = m + 1 := ⟨k - 1, by omega⟩
    simp only [spec_l1Root.l0]
    have e1 : wrap64 (hi - lo) = hi - lo := wrap_id (by omega) (by omega)
    rw [e1]
    by_cases c : hi - lo > 1
    · rw [if_pos c, tdiv_pos (by omega), wrap_id (x := (hi - lo) / 2) (by omega) (by omega), wrap_id (x := lo + (hi - lo) / 2) (by omega) (by omega)]
      have hm0 : 0 ≤ lo + (hi - lo) / 2 := by omega
      have hm1 : lo < lo + (hi - lo) / 2 := by omega
      have hm2 : lo + (hi - lo) / 2 < hi := by omega
      have hm3 : lo + (hi - lo) / 2 - lo ≤ d := by omega
      have hm4 : hi - (lo + (hi - lo) / 2) ≤ d := by omega
      generalize lo + (hi - lo) / 2 = m at *
      have hb := mul_bd (x := m) (y := m) (m := 1073741825) (n := 1073741825) (by omega) (by omega) (by omega) (by omega)
      rw [wrap_id (x := m * m) (by omega) (by omega)]
      by_cases c2 : m * m ≤ a
      · rw [if_pos c2]; exact ih k m hi hm0 hm2 h2 c2 h4 hm4 (by omega)
      · rw [if_neg c2]; exact ih k lo m h0 hm1 (by omega) h3 (by omega) hm3 (by omega)
    · rw [if_neg c]
      obtain rfl : hi = lo + 1 := by omega
      rw [isq_one h0 h3 h4]
theorem spec_root_eq {a : Int} (k : Nat) (hk : 2000000000 ≤ k) (h0 : 0 ≤ a) (h1 : a ≤ 1152921504606846976) : spec_l1Root.f k a = some (isq a) := by
  unfold spec_l1Root.f
  exact spec_root_l0 a h1 1073741825 k 0 1073741825 (by omega) (by omega) (by omega) (by omega) (by omega) (by omega) (by omega)
theorem impl_root_l0 (a : Int) (ha : a ≤ 1152921504606846976) (d : Nat) : ∀ (k : Nat) (lo hi : Int), 0 ≤ lo → lo ≤ hi → hi ≤ 1073741824 → lo * lo ≤ a → a < (hi + 1) * (hi + 1) → hi - lo ≤ d → d < k →
    impl_root.l0 k a lo hi = some (isq a) := by
  induction d with
  | zero =>
    intro k lo hi h0 h1 h2 h3 h4 h5 h6
    obtain ⟨k, rfl⟩ : ∃ m, k = m + 1 := ⟨k - 1, by omega⟩
    simp only [impl_root.l0]
    rw [if_neg (by omega)]
    obtain rfl : hi = lo := by omega
    rw [isq_one h0 h3 h4]
  | succ d ih =>
    intro k lo hi h0 h1 h2 h3 h4 h5 h6
    obtain ⟨k, rfl⟩ : ∃ m, k = m + 1 := ⟨k - 1, by omega⟩
    simp only [impl_root.l0]
    by_cases c : lo < hi
    · rw [if_pos c, wrap_id (x := lo + hi) (by omega) (by omega), wrap_id (x := lo + hi + 1) (by omega) (by omega), tdiv_pos (by omega), wrap_id (x := (lo + hi + 1) / 2) (by omega) (by omega)]
      have hm0 : lo < (lo + hi + 1) / 2 := by omega
      have hm1 : (lo + hi + 1) / 2 ≤ hi := by omega
      have hm2 : hi - (lo + hi + 1) / 2 ≤ d := by omega
      have hm3 : (lo + hi + 1) / 2 - 1 - lo ≤ d := by omega
      generalize (lo + hi + 1) / 2 = m at *
      have hb := mul_bd (x := m) (y := m) (m := 1073741825) (n := 1073741825) (by omega) (by omega) (by omega) (by omega)
      rw [wrap_id (x := m * m) (by omega) (by omega)]
      by_cases c2 : m * m ≤ a
      · rw [if_pos c2]; exact ih k m hi (by omega) hm1 h2 c2 h4 hm2 (by omega)
      · rw [if_neg c2, wrap_id (x := m - 1) (by omega) (by omega)]
        refine ih k lo (m - 1) h0 (by omega) (by omega) h3 ?_ hm3 (by omega)
        rw [show m - 1 + 1 = m by omega]; omega
    · rw [if_neg c]
      obtain rfl : hi = lo := by omega
      rw [isq_one h0 h3 h4]
theorem impl_root_eq {a : Int} (k : Nat) (hk : 2000000000 ≤ k) (h0 : 0 ≤ a) (h1 : a ≤ 1152921504606846976) : impl_root.f k a = some (isq a) := by
  unfold impl_root.f
  exact impl_root_l0 a h1 1073741824 k 0 1073741824 (by omega) (by omega) (by omega) (by omega) (by omega) (by omega) (by omega)
theorem spec_SpanOk_eq (a b : Int) : spec_SpanOk.f a b = some (okb a b) := by
  unfold spec_SpanOk.f okb
  simp only [l6In_eq, Option.bind_some]
  by_cases c : -1073000000 ≤ a ∧ a ≤ 1073000000
  · rw [decide_eq_true c, if_pos rfl]; congr 1; rw [decide_eq_decide]; omega
  · rw [decide_eq_false c, if_neg (by decide)]; congr 1; symm; rw [decide_eq_false_iff_not]; omega
theorem impl_SpanOk_eq (a b : Int) : impl_SpanOk.f a b = some (okb a b) := by
  unfold impl_SpanOk.f okb
  simp only [in_eq, Option.bind_some]
  by_cases c : -1073000000 ≤ a ∧ a ≤ 1073000000
  · rw [decide_eq_true c, if_pos rfl]
    by_cases c2 : -1073000000 ≤ b ∧ b ≤ 1073000000
    · rw [decide_eq_true c2, if_pos rfl]; congr 1; rw [decide_eq_decide]; omega
    · rw [decide_eq_false c2, if_neg (by decide)]; congr 1; symm; rw [decide_eq_false_iff_not]; omega
  · rw [decide_eq_false c, if_neg (by decide)]; congr 1; symm; rw [decide_eq_false_iff_not]; omega
theorem l2Fit_eq (a b : Int) : spec_l2Fit.f a b = some (told a b) := by
  unfold spec_l2Fit.f told
  rw [spec_SpanOk_eq]
  simp only [Option.bind_some]
  split <;> rfl
theorem told_eq (a b : Int) : impl_told.f a b = some (told a b) := by
  unfold impl_told.f told
  rw [impl_SpanOk_eq]
  simp only [Option.bind_some]
  split <;> rfl
theorem eqSpan_refl (l h : Int) : laws_eqSpan.f l h l h = some true := by
  unfold laws_eqSpan.f
  rw [if_pos rfl, if_pos rfl]
theorem toSpan_eq (l h : Int) : laws_toSpan.f l h = some (l, h) := rfl
theorem l2RootUp_eq {a : Int} (k : Nat) (hk : 2000000000 ≤ k) (h0 : 0 ≤ a) (h1 : a ≤ 1152921504606846976) : spec_l2RootUp.f k a = some (rup a) := by
  unfold spec_l2RootUp.f rup
  rw [spec_root_eq k hk h0 h1]
  simp only [Option.bind_some]
  obtain ⟨g0, g1, g2⟩ := isq_is h0
  have g3 := isq_le (m := 1073741824) h0 (by omega) (by omega)
  have g4 := Int.mul_nonneg g0 g0
  rw [wrap_id (x := isq a * isq a) (by omega) (by omega), wrap_id (x := isq a + 1) (by omega) (by omega)]
  split <;> rfl
theorem rootUp_eq {a : Int} (k : Nat) (hk : 2000000000 ≤ k) (h0 : 0 ≤ a) (h1 : a ≤ 1152921504606846976) : impl_rootUp.f k a = some (rup a) := by
  unfold impl_rootUp.f rup
  rw [impl_root_eq k hk h0 h1]
  simp only [Option.bind_some]
  obtain ⟨g0, g1, g2⟩ := isq_is h0
  have g3 := isq_le (m := 1073741824) h0 (by omega) (by omega)
  have g4 := Int.mul_nonneg g0 g0
  rw [wrap_id (x := isq a * isq a) (by omega) (by omega), wrap_id (x := isq a + 1) (by omega) (by omega)]
  split <;> rfl
theorem spec_SpanRoot_eq (k : Nat) (hk : 2000000001 ≤ k) (l h : Int) : spec_SpanRoot.f k l h = some (spanRoot l h) := by
  obtain ⟨k, rfl⟩ : ∃ j, k = j + 1 := ⟨k - 1, by omega⟩
  unfold spec_SpanRoot.f spanRoot
  simp only [spec_SpanOk_eq, Option.bind_some, spec_SpanRoot.j0]
  cases c1 : okb l h
  · simp
  · have k1 := okb_true.mp c1
    by_cases c2 : l < 0
    · rw [decide_eq_true c2, decide_eq_false (show ¬ 0 ≤ l by omega)]; simp
    · rw [decide_eq_false c2, decide_eq_true (show 0 ≤ l by omega), wrap_id (x := l * 1000000000) (by omega) (by omega), wrap_id (x := h * 1000000000) (by omega) (by omega),
        spec_root_eq k (by omega) (by omega) (by omega), l2RootUp_eq k (by omega) (by omega) (by omega)]
      simp only [Option.bind_some, l2Fit_eq]
      simp
theorem impl_SpanRoot_eq (k : Nat) (hk : 2000000001 ≤ k) (l h : Int) : impl_SpanRoot.f k l h = some (spanRoot l h) := by
  obtain ⟨k, rfl⟩ : ∃ j, k = j + 1 := ⟨k - 1, by omega⟩
  unfold impl_SpanRoot.f spanRoot
  simp only [impl_SpanOk_eq, Option.bind_some, impl_SpanRoot.j0]
  cases c1 : okb l h
  · simp
  · have k1 := okb_true.mp c1
    by_cases c2 : l < 0
    · rw [decide_eq_true c2, decide_eq_false (show ¬ 0 ≤ l by omega)]; simp
    · rw [decide_eq_false c2, decide_eq_true (show 0 ≤ l by omega), Int.mul_comm 1000000000 l, Int.mul_comm 1000000000 h, wrap_id (x := l * 1000000000) (by omega) (by omega), wrap_id (x := h * 1000000000) (by omega) (by omega),
        impl_root_eq k (by omega) (by omega) (by omega), rootUp_eq k (by omega) (by omega) (by omega)]
      simp only [Option.bind_some, told_eq]
      simp
end FnExactSpanRoot
open FnExactSpanRoot
theorem FnExactSpanRoot (a0_0 a0_1 : Int) : laws_FnExactSpanRoot.f 2000000002 a0_0 a0_1 = some true := by
  unfold laws_FnExactSpanRoot.f
  simp only [toSpan_eq, Option.bind_some, spec_SpanRoot_eq 2000000002 (by omega), impl_SpanRoot_eq 2000000002 (by omega), eqSpan_refl]
  simp
theorem FnExactSpanRoot_walk (a0_0 a0_1 : Int) (_ : (Lit.int .i64 a0_0).wf = true) (_ : (Lit.int .i64 a0_1).wf = true) (w : World) :
    Calls Try.prog 10 #[.agg #[.int .i64 a0_0, .int .i64 a0_1]] w fun e w' => e = .returned (.bool true) ∧ Below w.heap.size w w' :=
  laws_FnExactSpanRoot.calls 2000000002 a0_0 a0_1 true w (FnExactSpanRoot a0_0 a0_1)
end Go.Proofs.Ytanmfmfifhcbkaa.Pure
