/- NumRoot of the program answers at every whole number of Go's int what the reference's NumRoot answers: both are the greatest number whose square is not more. No condition. -/
import Derived.Test.YtdamlnnoccdhgaaPFnExactNumRootx1
import Derived.Test.YtdamlnnoccdhgaaModel
namespace Go.Proofs.Ytdamlnnoccdhgaa.Pure
open Go.RowKit Go.Proofs.Ytdamlnnoccdhgaa.PFnExactNumRoot Go.Proofs.YtdamlnnoccdhgaaW.PrintWords Go.Proofs.YtdamlnnoccdhgaaW.PrintLast Go.Proofs.Ytdamlnnoccdhgaa.Math
set_option linter.unusedVariables false
set_option linter.unusedSimpArgs false
namespace FnExactNumRoot
theorem l6In_eq (a l h : Int) : spec_l6In.f a l h = some (decide (l ≤ a ∧ a ≤ h)) := by
  unfold spec_l6In.f
  by_cases c : a ≥ l
  · rw [if_pos c]; congr 1; rw [decide_eq_decide]; omega
  · rw [if_neg c]; congr 1; symm; rw [decide_eq_false_iff_not]; omega
theorem in_eq (a l h : Int) : impl_in.f a l h = some (decide (l ≤ a ∧ a ≤ h)) := by
  unfold impl_in.f
  by_cases c : l ≤ a
  · rw [if_pos c]; congr 1; rw [decide_eq_decide]; omega
  · rw [if_neg c]; congr 1; symm; rw [decide_eq_false_iff_not]; omega
theorem spec_root_l0 (a : Int) (ha : a ≤ 1152921504606846976) (d : Nat) : ∀ (k : Nat) (lo hi : Int), 0 ≤ lo → lo < hi → hi ≤ 1073741825 → lo * lo ≤ a → a < hi * hi → hi - lo ≤ d → d < k →
    spec_l1Root.l0 k a lo hi = some (isq a) := by
  induction d with
  | zero => intro k lo hi h0 h1 h2 h3 h4 h5 h6; omega
  | succ d ih =>
    intro k lo hi h0 h1 h2 h3 h4 h5 h6
    obtain ⟨k, rfl⟩ : ∃ m, k = m + 1 := ⟨k - 1, by omega⟩
    simp only [spec_l1Root.l0]
    have e1 : wrap64 (hi - lo) = hi - lo := wrap_id (by omega) (by omega)
    rw [e1]
    by_cases c : hi - lo > 1
    · rw [if_pos c, tdiv_pos (by omega), wrap_id (x := (hi - lo) / 2) (by omega) (by omega), wrap_id (x := lo + (hi - lo) / 2) (by omega) (by omega)]
      have hm0 : 0 ≤ lo + (hi - lo) / 2 := by omega
      have hm1 : lo < lo + (hi - lo) / 2 := by omega
      have hm2 : lo + (hi - lo) / 2 < hi := by omega
      have hm3 : lo + (hi - lo) / 2 - lo ≤ d := by omega
      have hm4 : hi - (lo + (hi - lo) / 2) ≤ d := by omega
      generalize lo + (hi - lo) / 2 = m at *
      have hb := mul_bd (x := m) (y := m) (m := 1073741825) (n := 1073741825) (by omega) (by omega) (by omega) (by omega)
      rw [wrap_id (x := m * m) (by omega) (by omega)]
      by_cases c2 : m * m ≤ a
      · rw [if_pos c2]; exact ih k m hi hm0 hm2 h2 c2 h4 hm4 (by omega)
      · rw [if_neg c2]; exact ih k lo m h0 hm1 (by omega) h3 (by omega) hm3 (by omega)
    · rw [if_neg c]
      obtain rfl : hi = lo + 1 := by omega
      rw [isq_one h0 h3 h4]
theorem spec_root_eq {a : Int} (k : Nat) (hk : 2000000000 ≤ k) (h0 : 0 ≤ a) (h1 : a ≤ 1152921504606846976) : spec_l1Root.f k a = some (isq a) := by
  unfold spec_l1Root.f
  exact spec_root_l0 a h1 1073741825 k 0 1073741825 (by omega) (by omega) (by omega) (by omega) (by omega) (by omega) (by omega)
theorem impl_root_l0 (a : Int) (ha : a ≤ 1152921504606846976) (d : Nat) : ∀ (k : Nat) (lo hi : Int), 0 ≤ lo → lo ≤ hi → hi ≤ 1073741824 → lo * lo ≤ a → a < (hi + 1) * (hi + 1) → hi - lo ≤ d → d < k →
    impl_root.l0 k a lo hi = some (isq a) := by
  induction d with
  | zero =>
    intro k lo hi h0 h1 h2 h3 h4 h5 h6
    obtain ⟨k, rfl⟩ : ∃ m, k = m + 1 := ⟨k - 1, by omega⟩
    simp only [impl_root.l0]
    rw [if_neg (by omega)]
    obtain rfl : hi = lo := by omega
    rw [isq_one h0 h3 h4]
  | succ d ih =>
    intro k lo hi h0 h1 h2 h3 h4 h5 h6
    obtain ⟨k, rfl⟩ : ∃ m, k = m + 1 := ⟨k - 1, by omega⟩
    simp only [impl_root.l0]
    by_cases c : lo < hi
    · rw [if_pos c, wrap_id (x := lo + hi) (by omega) (by omega), wrap_id (x := lo + hi + 1) (by omega) (by omega), tdiv_pos (by omega), wrap_id (x := (lo + hi + 1) / 2) (by omega) (by omega)]
      have hm0 : lo < (lo + hi + 1) / 2 := by omega
      have hm1 : (lo + hi + 1) / 2 ≤ hi := by omega
      have hm2 : hi - (lo + hi + 1) / 2 ≤ d := by omega
      have hm3 : (lo + hi + 1) / 2 - 1 - lo ≤ d := by omega
      generalize (lo + hi + 1) / 2 = m at *
      have hb := mul_bd (x := m) (y := m) (m := 1073741825) (n := 1073741825) (by omega) (by omega) (by omega) (by omega)
      rw [wrap_id (x := m * m) (by omega) (by omega)]
      by_cases c2 : m * m ≤ a
      · rw [if_pos c2]; exact ih k m hi (by omega) hm1 h2 c2 h4 hm2 (by omega)
      · rw [if_neg c2, wrap_id (x := m - 1) (by omega) (by omega)]
        refine ih k lo (m - 1) h0 (by omega) (by omega) h3 ?_ hm3 (by omega)
        rw [show m - 1 + 1 = m by omega]; omega
    · rw [if_neg c]
      obtain rfl : hi = lo := by omega
      rw [isq_one h0 h3 h4]
theorem impl_root_eq {a : Int} (k : Nat) (hk : 2000000000 ≤ k) (h0 : 0 ≤ a) (h1 : a ≤ 1152921504606846976) : impl_root.f k a = some (isq a) := by
  unfold impl_root.f
  exact impl_root_l0 a h1 1073741824 k 0 1073741824 (by omega) (by omega) (by omega) (by omega) (by omega) (by omega) (by omega)
theorem spec_NumRoot_eq (a : Int) (k : Nat) (hk : 2000000001 ≤ k) : spec_NumRoot.f k a = some (numRoot a) := by
  unfold spec_NumRoot.f numRoot rootb
  rw [l6In_eq]
  simp only [Option.bind_some]
  by_cases c : 0 ≤ a ∧ a ≤ 1152921504606846976
  · rw [decide_eq_true c]; simp [spec_root_eq k (by omega) c.1 c.2]
  · rw [decide_eq_false c]; simp
theorem impl_NumRoot_eq (a : Int) (k : Nat) (hk : 2000000001 ≤ k) : impl_NumRoot.f k a = some (numRoot a) := by
  unfold impl_NumRoot.f numRoot rootb
  rw [in_eq]
  simp only [Option.bind_some]
  by_cases c : 0 ≤ a ∧ a ≤ 1152921504606846976
  · rw [decide_eq_true c]; simp [impl_root_eq k (by omega) c.1 c.2]
  · rw [decide_eq_false c]; simp
end FnExactNumRoot
open FnExactNumRoot
theorem FnExactNumRoot : laws_FnExactNumRoot.Pure := by
  intro a0 h
  refine ⟨2000000002, ?_⟩
  unfold laws_FnExactNumRoot.f
  rw [spec_NumRoot_eq _ _ (by omega), impl_NumRoot_eq _ _ (by omega)]
  simp
end Go.Proofs.Ytdamlnnoccdhgaa.Pure
