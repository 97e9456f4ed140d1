/- NumRound of the program answers at all whole numbers of Go's int what the reference's NumRound answers. No condition. -/
import Derived.Test.YtanmfmfifhcbkaaPFnExactNumRoundx1
import Derived.Test.YtanmfmfifhcbkaaModel
namespace Go.Proofs.Ytanmfmfifhcbkaa.Pure
open Go.RowKit Go.Proofs.Ytanmfmfifhcbkaa.PFnExactNumRound Go.Proofs.YtanmfmfifhcbkaaW.PrintWords Go.Proofs.YtanmfmfifhcbkaaW.PrintLast Go.Proofs.Ytanmfmfifhcbkaa.Math
set_option linter.unusedVariables false
set_option linter.unusedSimpArgs false
namespace FnExactNumRound
theorem l6In_eq (a l h : Int) : spec_l6In.f a l h = some (decide (l ≤ a ∧ a ≤ h)) := by
  unfold spec_l6In.f
  by_cases c : a ≥ l
  · rw [if_pos c]; congr 1; rw [decide_eq_decide]; omega
  · rw [if_neg c]; congr 1; symm; rw [decide_eq_false_iff_not]; omega
theorem in_eq (a l h : Int) : impl_in.f a l h = some (decide (l ≤ a ∧ a ≤ h)) := by
  unfold impl_in.f
  by_cases c : l ≤ a
  · rw [if_pos c]; congr 1; rw [decide_eq_decide]; omega
  · rw [if_neg c]; congr 1; symm; rw [decide_eq_false_iff_not]; omega
theorem l1Down_eq {a b : Int} (h0 : -2305843009213693952 ≤ a) (h1 : a ≤ 2305843009213693952) (hb : 1 ≤ b) (hb2 : b ≤ 2305843009213693952) : spec_l1Down.f a b = some (a / b) := by
  unfold spec_l1Down.f
  by_cases c : a ≥ 0
  · rw [if_pos c, if_neg (by omega), tdiv_pos c]
    have := (dn_abs (a := a) (show 0 < b by omega)).1 c
    rw [wrap_id (by omega) (by omega)]
  · rw [if_neg c, if_neg (by omega), wrap_id (x := -a) (by omega) (by omega), wrap_id (x := -a + b) (by omega) (by omega), wrap_id (x := -a + b - 1) (by omega) (by omega), tdiv_pos (by omega)]
    have h2 := (dn_abs (a := -a + b - 1) (show 0 < b by omega)).1 (by omega)
    rw [wrap_id (x := (-a + b - 1) / b) (by omega) (by omega), wrap_id (x := -((-a + b - 1) / b)) (by omega) (by omega), ceil_val (by omega)]
theorem l1Up_eq {a b : Int} (h0 : -2305843009213693952 ≤ a) (h1 : a ≤ 2305843009213693952) (hb : 1 ≤ b) (hb2 : b ≤ 2305843009213693952) : spec_l1Up.f a b = some (up a b) := by
  unfold spec_l1Up.f
  have h2 := dn_abs (a := -a) (show 0 < b by omega)
  rw [wrap_id (x := -a) (by omega) (by omega), l1Down_eq (by omega) (by omega) hb hb2]
  simp only [Option.bind_some]
  rw [wrap_id (x := -(-a / b)) (by omega) (by omega)]
  rfl
theorem down_eq {a b : Int} (h0 : -2305843009213693952 ≤ a) (h1 : a ≤ 2305843009213693952) (hb : 1 ≤ b) : impl_down.f a b = some (a / b) := by
  unfold impl_down.f
  have h2 := tdiv_bd (a := a) (b := b) (m := 2305843009213693952) (by omega) h0 h1
  have h3 := down_val (a := a) (b := b) (by omega)
  rw [if_neg (by omega), wrap_id (x := Int.tdiv a b) (by omega) (by omega), wrap_id (x := Int.tdiv a b - 1) (by omega) (by omega)]
  by_cases c : Int.tmod a b < 0
  · rw [if_pos c] at h3 ⊢; rw [h3]
  · rw [if_neg c] at h3 ⊢; rw [h3]
theorem up_fn {a b : Int} (h0 : -2305843009213693952 ≤ a) (h1 : a ≤ 2305843009213693952) (hb : 1 ≤ b) : impl_up.f a b = some (up a b) := by
  unfold impl_up.f
  have h2 := dn_abs (a := -a) (show 0 < b by omega)
  rw [wrap_id (x := -a) (by omega) (by omega), down_eq (by omega) (by omega) hb]
  simp only [Option.bind_some]
  rw [wrap_id (x := -(-a / b)) (by omega) (by omega)]
  rfl
theorem l1Ok_eq (a b : Int) : spec_l1Ok.f a b = some (divb a b) := by
  unfold spec_l1Ok.f divb
  simp only [l6In_eq, Option.bind_some]
  by_cases c : -1152921504606846976 ≤ a ∧ a ≤ 1152921504606846976
  · simp [c]
  · simp only [decide_eq_false c, Bool.false_eq_true, if_false]; congr 1; symm; rw [decide_eq_false_iff_not]; omega
theorem divides_eq (a b : Int) : impl_divides.f a b = some (divb a b) := by
  unfold impl_divides.f divb
  simp only [in_eq, Option.bind_some]
  by_cases c : -1152921504606846976 ≤ a ∧ a ≤ 1152921504606846976
  · simp [c]
  · simp only [decide_eq_false c, Bool.false_eq_true, if_false]; congr 1; symm; rw [decide_eq_false_iff_not]; omega
theorem l1Even_eq {a b : Int} (h0 : -1152921504606846976 ≤ a) (h1 : a ≤ 1152921504606846976) (hb : 1 ≤ b) (hb2 : b ≤ 1152921504606846976) : spec_l1Even.f a b = some (even a b) := by
  unfold spec_l1Even.f even
  have h2 := dn_bd (a := a) (show 0 < b by omega)
  have h3 := dn_abs (a := a) (show 0 < b by omega)
  rw [l1Down_eq (by omega) (by omega) hb (by omega)]
  simp only [Option.bind_some]
  rw [wrap_id (x := a / b * b) (by omega) (by omega), wrap_id (x := a - a / b * b) (by omega) (by omega), wrap_id (x := b - (a - a / b * b)) (by omega) (by omega), wrap_id (x := a / b + 1) (by omega) (by omega)]
  have h4 := tmod_two (a / b)
  generalize a / b = q at *
  generalize q * b = n at *
  by_cases c1 : a - n > b - (a - n)
  · rw [if_pos c1, if_pos (.inl c1)]
  · rw [if_neg c1]
    by_cases c2 : a - n = b - (a - n)
    · rw [if_pos c2]
      by_cases c3 : Int.tmod q 2 = 0
      · rw [if_pos c3, if_neg (by omega)]
      · rw [if_neg c3, if_pos (by omega)]
    · rw [if_neg c2, if_neg (by omega)]
theorem l1Round_eq {a b w : Int} (h0 : -1152921504606846976 ≤ a) (h1 : a ≤ 1152921504606846976) (hb : 1 ≤ b) (hb2 : b ≤ 1152921504606846976) : spec_l1Round.f a b w = some (rnd a b w) := by
  unfold spec_l1Round.f rnd
  rw [l1Down_eq (by omega) (by omega) hb (by omega), l1Up_eq (by omega) (by omega) hb (by omega), l1Even_eq h0 h1 hb hb2]
  simp only [Option.bind_some]
  repeat' split
  all_goals rfl
theorem spec_NumRound_eq (a b w : Int) : spec_NumRound.f a b w = some (numRound a b w) := by
  unfold spec_NumRound.f numRound
  simp only [l1Ok_eq, l6In_eq, Option.bind_some]
  cases c : divb a b
  · simp
  · have := divb_true.mp c
    rw [l1Round_eq (by omega) (by omega) (by omega) (by omega)]
    by_cases c2 : 1 ≤ w ∧ w ≤ 4 <;> simp [wayb, c2]
theorem round_eq {a b w : Int} (h0 : -1152921504606846976 ≤ a) (h1 : a ≤ 1152921504606846976) (hb : 1 ≤ b) (hb2 : b ≤ 1152921504606846976) (hw : 1 ≤ w) (hw2 : w ≤ 4) : impl_round.f a b w = some (rnd a b w) := by
  unfold impl_round.f
  have h2 := dn_bd (a := a) (show 0 < b by omega)
  have h3 := dn_abs (a := a) (show 0 < b by omega)
  have h5 := tdiv_bd (a := a) (b := b) (m := 1152921504606846976) (by omega) h0 h1
  rw [down_eq (by omega) (by omega) hb]
  simp only [Option.bind_some]
  rw [up_fn (by omega) (by omega) hb, wrap_id (x := Int.tdiv a b) (by omega) (by omega), wrap_id (x := a / b * b) (by omega) (by omega), wrap_id (x := a - a / b * b) (by omega) (by omega), wrap_id (x := b - (a - a / b * b)) (by omega) (by omega), wrap_id (x := a / b + 1) (by omega) (by omega)]
  simp only [Option.bind_some]
  by_cases w1 : w = 1
  · subst w1; rw [rnd_one]; simp
  by_cases w2 : w = 2
  · subst w2; rw [rnd_two]; simp
  by_cases w3 : w = 3
  · subst w3
    rw [rnd_three, if_neg (show ¬ (3 : Int) = 2 by decide), if_pos rfl, if_neg (by omega)]
    by_cases c : a < 0
    · rw [if_pos c, tdiv_up (by omega)]
    · rw [if_neg c, tdiv_pos (by omega)]
  have w4 : w = 4 := by omega
  subst w4
  rw [rnd_four, if_neg (show ¬ (4 : Int) = 2 by decide), if_neg (show ¬ (4 : Int) = 3 by decide), if_pos rfl]
  unfold even
  have h4 := tmod_two (a / b)
  generalize a / b = q at *
  generalize q * b = n at *
  by_cases c1 : a - n > b - (a - n)
  · rw [if_pos c1, if_pos (.inl c1)]
  · rw [if_neg c1]
    by_cases c2 : a - n = b - (a - n)
    · rw [if_pos c2]
      by_cases c3 : Int.tmod q 2 = 0
      · rw [if_pos c3, if_neg (by omega)]
      · rw [if_neg c3, if_pos (by omega)]
    · rw [if_neg c2, if_neg (by omega)]
theorem impl_NumRound_eq (a b w : Int) : impl_NumRound.f a b w = some (numRound a b w) := by
  unfold impl_NumRound.f numRound
  simp only [divides_eq, in_eq, Option.bind_some]
  cases c : divb a b
  · simp
  · have := divb_true.mp c
    by_cases c2 : 1 ≤ w ∧ w ≤ 4
    · rw [round_eq (by omega) (by omega) (by omega) (by omega) c2.1 c2.2]
      simp [wayb, c2]
    · simp [wayb, c2]
end FnExactNumRound
open FnExactNumRound
theorem FnExactNumRound : laws_FnExactNumRound.Pure := by
  intro a0 a1 a2 h0 h1 h2
  unfold laws_FnExactNumRound.f
  rw [spec_NumRound_eq, impl_NumRound_eq]
  simp
end Go.Proofs.Ytanmfmfifhcbkaa.Pure
