/- Divided by one a number is not rounded, as the law of the program's NumRound says it. No condition. -/
import Derived.Test.YtjhlkdmhlgghbaaQFnNumWholex3
import Derived.Test.YtjhlkdmhlgghbaaModel
namespace Go.Proofs.Ytjhlkdmhlgghbaa.Pure
open Go.RowKit Go.Proofs.Ytjhlkdmhlgghbaa.PFnNumWhole Go.Proofs.YtjhlkdmhlgghbaaW.PrintWords Go.Proofs.YtjhlkdmhlgghbaaW.PrintLast Go.Proofs.Ytjhlkdmhlgghbaa.Math
set_option linter.unusedVariables false
set_option linter.unusedSimpArgs false
namespace FnNumWhole
theorem l6In_eq (a l h : Int) : spec_l6In.f a l h = some (decide (l ≤ a ∧ a ≤ h)) := by
  unfold spec_l6In.f
  by_cases c : a ≥ l
  · rw [if_pos c]; congr 1; rw [decide_eq_decide]; omega
  · rw [if_neg c]; congr 1; symm; rw [decide_eq_false_iff_not]; omega
theorem in_eq (a l h : Int) : impl_in.f a l h = some (decide (l ≤ a ∧ a ≤ h)) := by
  unfold impl_in.f
  by_cases c : l ≤ a
  · rw [if_pos c]; congr 1; rw [decide_eq_decide]; omega
  · rw [if_neg c]; congr 1; symm; rw [decide_eq_false_iff_not]; omega
theorem l1Down_eq {a b : Int} (h0 : -2305843009213693952 ≤ a) (h1 : a ≤ 2305843009213693952) (hb : 1 ≤ b) (hb2 : b ≤ 2305843009213693952) : spec_l1Down.f a b = some (a / b) := by
  unfold spec_l1Down.f
  by_cases c : a ≥ 0
  · rw [if_pos c, if_neg (by omega), tdiv_pos c]
    have := (dn_abs (a := a) (show 0 < b by omega)).1 c
    rw [wrap_id (by omega) (by omega)]
  · rw [if_neg c, if_neg (by omega), wrap_id (x := -a) (by omega) (by omega), wrap_id (x := -a + b) (by omega) (by omega), wrap_id (x := -a + b - 1) (by omega) (by omega), tdiv_pos (by omega)]
    have h2 := (dn_abs (a := -a + b - 1) (show 0 < b by omega)).1 (by omega)
    rw [wrap_id (x := (-a + b - 1) / b) (by omega) (by omega), wrap_id (x := -((-a + b - 1) / b)) (by omega) (by omega), ceil_val (by omega)]
theorem l1Up_eq {a b : Int} (h0 : -2305843009213693952 ≤ a) (h1 : a ≤ 2305843009213693952) (hb : 1 ≤ b) (hb2 : b ≤ 2305843009213693952) : spec_l1Up.f a b = some (up a b) := by
  unfold spec_l1Up.f
  have h2 := dn_abs (a := -a) (show 0 < b by omega)
  rw [wrap_id (x := -a) (by omega) (by omega), l1Down_eq (by omega) (by omega) hb hb2]
  simp only [Option.bind_some]
  rw [wrap_id (x := -(-a / b)) (by omega) (by omega)]
  rfl
theorem down_eq {a b : Int} (h0 : -2305843009213693952 ≤ a) (h1 : a ≤ 2305843009213693952) (hb : 1 ≤ b) : impl_down.f a b = some (a / b) := by
  unfold impl_down.f
  have h2 := tdiv_bd (a := a) (b := b) (m := 2305843009213693952) (by omega) h0 h1
  have h3 := down_val (a := a) (b := b) (by omega)
  rw [if_neg (by omega), wrap_id (x := Int.tdiv a b) (by omega) (by omega), wrap_id (x := Int.tdiv a b - 1) (by omega) (by omega)]
  by_cases c : Int.tmod a b < 0
  · rw [if_pos c] at h3 ⊢; rw [h3]
  · rw [if_neg c] at h3 ⊢; rw [h3]
theorem up_fn {a b : Int} (h0 : -2305843009213693952 ≤ a) (h1 : a ≤ 2305843009213693952) (hb : 1 ≤ b) : impl_up.f a b = some (up a b) := by
  unfold impl_up.f
  have h2 := dn_abs (a := -a) (show 0 < b by omega)
  rw [wrap_id (x := -a) (by omega) (by omega), down_eq (by omega) (by omega) hb]
  simp only [Option.bind_some]
  rw [wrap_id (x := -(-a / b)) (by omega) (by omega)]
  rfl
theorem l1Ok_eq (a b : Int) : spec_l1Ok.f a b = some (divb a b) := by
  unfold spec_l1Ok.f divb
  simp only [l6In_eq, Option.bind_some]
  by_cases c : -1152921504606846976 ≤ a ∧ a ≤ 1152921504606846976
  · simp [c]
  · simp only [decide_eq_false c, Bool.false_eq_true, if_false]; congr 1; symm; rw [decide_eq_false_iff_not]; omega
theorem divides_eq (a b : Int) : impl_divides.f a b = some (divb a b) := by
  unfold impl_divides.f divb
  simp only [in_eq, Option.bind_some]
  by_cases c : -1152921504606846976 ≤ a ∧ a ≤ 1152921504606846976
  · simp [c]
  · simp only [decide_eq_false c, Bool.false_eq_true, if_false]; congr 1; symm; rw [decide_eq_false_iff_not]; omega
theorem l1Even_eq {a b : Int} (h0 : -1152921504606846976 ≤ a) (h1 : a ≤ 1152921504606846976) (hb : 1 ≤ b) (hb2 : b ≤ 1152921504606846976) : spec_l1Even.f a b = some (even a b) := by
  unfold spec_l1Even.f even
  have h2 := dn_bd (a := a) (show 0 < b by omega)
  have h3 := dn_abs (a := a) (show 0 < b by omega)
  rw [l1Down_eq (by omega) (by omega) hb (by omega)]
  simp only [Option.bind_some]
  rw [wrap_id (x := a / b * b) (by omega) (by omega), wrap_id (x := a - a / b * b) (by omega) (by omega), wrap_id (x := b - (a - a / b * b)) (by omega) (by omega), wrap_id (x := a / b + 1) (by omega) (by omega)]
  have h4 := tmod_two (a / b)
  generalize a / b = q at *
  generalize q * b = n at *
  by_cases c1 : a - n > b - (a - n)
  · rw [if_pos c1, if_pos (.inl c1)]
  · rw [if_neg c1]
    by_cases c2 : a - n = b - (a - n)
    · rw [if_pos c2]
      by_cases c3 : Int.tmod q 2 = 0
      · rw [if_pos c3, if_neg (by omega)]
      · rw [if_neg c3, if_pos (by omega)]
    · rw [if_neg c2, if_neg (by omega)]
theorem l1Round_eq {a b w : Int} (h0 : -1152921504606846976 ≤ a) (h1 : a ≤ 1152921504606846976) (hb : 1 ≤ b) (hb2 : b ≤ 1152921504606846976) : spec_l1Round.f a b w = some (rnd a b w) := by
  unfold spec_l1Round.f rnd
  rw [l1Down_eq (by omega) (by omega) hb (by omega), l1Up_eq (by omega) (by omega) hb (by omega), l1Even_eq h0 h1 hb hb2]
  simp only [Option.bind_some]
  repeat' split
  all_goals rfl
theorem spec_NumRound_eq (a b w : Int) : spec_NumRound.f a b w = some (numRound a b w) := by
  unfold spec_NumRound.f numRound
  simp only [l1Ok_eq, l6In_eq, Option.bind_some]
  cases c : divb a b
  · simp
  · have := divb_true.mp c
    rw [l1Round_eq (by omega) (by omega) (by omega) (by omega)]
    by_cases c2 : 1 ≤ w ∧ w ≤ 4 <;> simp [wayb, c2]
theorem round_eq {a b w : Int} (h0 : -1152921504606846976 ≤ a) (h1 : a ≤ 1152921504606846976) (hb : 1 ≤ b) (hb2 : b ≤ 1152921504606846976) (hw : 1 ≤ w) (hw2 : w ≤ 4) : impl_round.f a b w = some (rnd a b w) := by
  unfold impl_round.f
  have h2 := dn_bd (a := a) (show 0 < b by omega)
  have h3 := dn_abs (a := a) (show 0 < b by omega)
  have h5 := tdiv_bd (a := a) (b := b) (m := 1152921504606846976) (by omega) h0 h1
  rw [down_eq (by omega) (by omega) hb]
  simp only [Option.bind_some]
  rw [up_fn (by omega) (by omega) hb, wrap_id (x := Int.tdiv a b) (by omega) (by omega), wrap_id (x := a / b * b) (by omega) (by omega), wrap_id (x := a - a / b * b) (by omega) (by omega), wrap_id (x := b - (a - a / b * b)) (by omega) (by omega), wrap_id (x := a / b + 1) (by omega) (by omega)]
  simp only [Option.bind_some]
  by_cases w1 : w = 1
  · subst w1; rw [rnd_one]; simp
  by_cases w2 : w = 2
  · subst w2; rw [rnd_two]; simp
  by_cases w3 : w = 3
  · subst w3
    rw [rnd_three, if_neg (show ¬ (3 : Int) = 2 by decide), if_pos rfl, if_neg (by omega)]
    by_cases c : a < 0
    · rw [if_pos c, tdiv_up (by omega)]
    · rw [if_neg c, tdiv_pos (by omega)]
  have w4 : w = 4 := by omega
  subst w4
  rw [rnd_four, if_neg (show ¬ (4 : Int) = 2 by decide), if_neg (show ¬ (4 : Int) = 3 by decide), if_pos rfl]
  unfold even
  have h4 := tmod_two (a / b)
  generalize a / b = q at *
  generalize q * b = n at *
  by_cases c1 : a - n > b - (a - n)
  · rw [if_pos c1, if_pos (.inl c1)]
  · rw [if_neg c1]
    by_cases c2 : a - n = b - (a - n)
    · rw [if_pos c2]
      by_cases c3 : Int.tmod q 2 = 0
      · rw [if_pos c3, if_neg (by omega)]
      · rw [if_neg c3, if_pos (by omega)]
    · rw [if_neg c2, if_neg (by omega)]
theorem impl_NumRound_eq (a b w : Int) : impl_NumRound.f a b w = some (numRound a b w) := by
  unfold impl_NumRound.f numRound
  simp only [divides_eq, in_eq, Option.bind_some]
  cases c : divb a b
  · simp
  · have := divb_true.mp c
    by_cases c2 : 1 ≤ w ∧ w ≤ 4
    · rw [round_eq (by omega) (by omega) (by omega) (by omega) c2.1 c2.2]
      simp [wayb, c2]
    · simp [wayb, c2]
def Bytes (s : List Int) : Prop := s.length ≤ 2000 ∧ ∀ x ∈ s, 0 ≤ x ∧ x ≤ 255
theorem bytes_rd {s : List Int} (h : Bytes s) (i : Int) : 0 ≤ rd s i ∧ rd s i ≤ 255 := by
  unfold rd
  by_cases c : i.toNat < s.length
  · rw [List.getD_eq_getElem?_getD, List.getElem?_eq_getElem c, Option.getD_some]
    exact h.2 _ (List.getElem_mem c)
  · rw [List.getD_eq_getElem?_getD, List.getElem?_eq_none (by omega), Option.getD_none]; omega
theorem l6Open_eq (l : List Int) (h : ∀ x ∈ l, (Lit.int .u8 x).wf = true) : ∃ s, spec_l6Open.f l = some (s, 0) ∧ Bytes s := by
  have hb : ∀ x ∈ l, 0 ≤ x ∧ x ≤ 255 := by
    intro x hx
    have := h x hx
    simp [Lit.wf, IntKind.bits, IntKind.signed, IntKind.min, IntKind.max] at this
    omega
  unfold spec_l6Open.f
  by_cases c : (l.length : Int) > 2000
  · rw [if_pos c, if_pos (by omega)]
    exact ⟨_, rfl, by rw [List.length_take]; omega, fun x hx => hb x (List.mem_of_mem_take hx)⟩
  · rw [if_neg c]
    exact ⟨_, rfl, by omega, hb⟩
theorem pick_eq {s : List Int} (hs : Bytes s) (k : Nat) (p n : Int) (hk : 1 ≤ k) (h0 : 0 ≤ p) (h1 : p ≤ 10000) :
    ∃ v, spec_l6Rd_pick.f k s p n = some (v, p + 1) ∧ 0 ≤ v ∧ (1 ≤ n → v < n) := by
  obtain ⟨k, rfl⟩ : ∃ m, k = m + 1 := ⟨k - 1, by omega⟩
  unfold spec_l6Rd_pick.f
  rw [wrap_id (x := p + 1) (by omega) (by omega)]
  by_cases c : n < 1
  · rw [if_pos c]; simp only [spec_l6Rd_pick.j0, if_true]
    exact ⟨0, rfl, by omega, by omega⟩
  · rw [if_neg c]
    by_cases c2 : (s.length : Int) = 0
    · rw [show ((s.length : Int) == 0) = true by rw [c2]; rfl]; simp only [spec_l6Rd_pick.j0, if_true]
      exact ⟨0, rfl, by omega, by omega⟩
    · have hl := hs.1
      rw [show ((s.length : Int) == 0) = false from beq_eq_false_iff_ne.mpr c2]; simp only [spec_l6Rd_pick.j0, Bool.false_eq_true, if_false]
      rw [show p + 1 - 1 = p by omega, wrap_id (x := p) (by omega) (by omega)]
      by_cases c3 : p < (s.length : Int)
      · rw [if_pos c3, if_pos h0, if_neg (by omega)]
        have hr := bytes_rd hs p
        rw [wrap_id (x := rd s p) (by omega) (by omega)]
        exact ⟨_, rfl, Int.tmod_nonneg _ hr.1, fun _ => Int.tmod_lt_of_pos _ (by omega)⟩
      · have hd := tdiv_pos (b := (s.length : Int)) h0
        have hd0 : 0 ≤ p / (s.length : Int) := Int.ediv_nonneg h0 (by omega)
        have hd1 : p / (s.length : Int) ≤ p := Int.ediv_le_self _ h0
        rw [if_neg c3, if_neg c2, wrap_id (x := p * 7) (by omega) (by omega), wrap_id (x := p * 7 + 3) (by omega) (by omega), if_pos (Int.tmod_nonneg _ h0), if_pos (Int.tmod_lt_of_pos _ (by omega)),
          if_pos (Int.tmod_nonneg _ (by omega)), if_pos (Int.tmod_lt_of_pos _ (by omega)), if_neg (by omega)]
        have ha := bytes_rd hs (Int.tmod p (s.length : Int))
        have hb := bytes_rd hs (Int.tmod (p * 7 + 3) (s.length : Int))
        rw [hd]
        generalize rd s (Int.tmod p (s.length : Int)) = a at *
        generalize rd s (Int.tmod (p * 7 + 3) (s.length : Int)) = b at *
        generalize p / (s.length : Int) = q at *
        rw [wrap_id (x := a) (by omega) (by omega), wrap_id (x := b) (by omega) (by omega), wrap_id (x := q) (by omega) (by omega), wrap_id (x := a * 131) (by omega) (by omega), wrap_id (x := b * 1117) (by omega) (by omega),
          wrap_id (x := p * 29) (by omega) (by omega), wrap_id (x := q * 53) (by omega) (by omega), wrap_id (x := a * 131 + b * 1117) (by omega) (by omega), wrap_id (x := a * 131 + b * 1117 + p * 29) (by omega) (by omega),
          wrap_id (x := a * 131 + b * 1117 + p * 29 + q * 53) (by omega) (by omega), tdiv_pos (a := a * 131 + b * 1117 + p * 29 + q * 53) (by omega)]
        have hx0 : 0 ≤ a * 131 + b * 1117 + p * 29 + q * 53 ∧ a * 131 + b * 1117 + p * 29 + q * 53 ≤ 100000000000 := by omega
        generalize a * 131 + b * 1117 + p * 29 + q * 53 = x at *
        by_cases hx : 0 ≤ x ∧ x ≤ 100000000000
        · rw [wrap_id (x := x / 64) (by omega) (by omega)]
          have hz := xor_nonneg (x := x) (y := x / 64) (by omega) (by omega) (by omega) (by omega)
          exact ⟨_, rfl, Int.tmod_nonneg _ hz.1, fun _ => Int.tmod_lt_of_pos _ (by omega)⟩
        · exact absurd hx0 hx
theorem big_j1 {s : List Int} (hs : Bytes s) (k : Nat) (m x p : Int) (hk : 2 ≤ k) (hm : 0 ≤ m) (hm2 : m ≤ 9223372036854775807) (hx : I64 x) (h0 : 0 ≤ p) (h1 : p ≤ 9000) :
    ∃ r p', spec_l71Big.j1 k m x s p = some (r, p') ∧ I64 r ∧ p ≤ p' ∧ p' ≤ p + 1 := by
  obtain ⟨k, rfl⟩ : ∃ j, k = j + 1 := ⟨k - 1, by omega⟩
  simp only [spec_l71Big.j1]
  by_cases c : x < 0
  · rw [if_pos c]; exact ⟨_, _, rfl, hx, by omega, by omega⟩
  · have hw : wrap64 (m + 1) ≠ 0 := by unfold wrap64; omega
    rw [if_neg c, if_neg hw]
    obtain ⟨v, e, _, _⟩ := pick_eq hs k p 2 (by omega) h0 (by omega)
    rw [e]
    simp only [Option.bind_some]
    have ht : I64 (Int.tmod x (wrap64 (m + 1))) := by
      have a1 := Int.tmod_nonneg (a := x) (wrap64 (m + 1)) (by omega)
      have a2 : Int.tmod x (wrap64 (m + 1)) ≤ x := by
        have := Int.natAbs_tmod x (wrap64 (m + 1))
        have := Nat.mod_le x.natAbs (wrap64 (m + 1)).natAbs
        omega
      unfold I64 at *; omega
    split
    · exact ⟨_, _, rfl, wrap_i64 _, by omega, by omega⟩
    · exact ⟨_, _, rfl, ht, by omega, by omega⟩
theorem big_l0 {s : List Int} (hs : Bytes s) (m : Int) (hm : 0 ≤ m) (hm2 : m ≤ 9223372036854775807) (d : Nat) : ∀ (k : Nat) (x i p : Int), d + 3 ≤ k → d ≤ 4 → i = 4 - d → I64 x → 0 ≤ p → p + d ≤ 8000 →
    ∃ r p', spec_l71Big.l0 k m x i s p = some (r, p') ∧ I64 r ∧ p ≤ p' ∧ p' ≤ p + d + 1 := by
  induction d with
  | zero =>
    intro k x i p hk hd hi hx h0 h1
    obtain ⟨k, rfl⟩ : ∃ j, k = j + 1 := ⟨k - 1, by omega⟩
    simp only [spec_l71Big.l0]
    rw [if_neg (by omega)]
    obtain ⟨r, p', e, h⟩ := big_j1 hs k m x p (by omega) hm hm2 hx h0 (by omega)
    exact ⟨r, p', e, h.1, by omega, by omega⟩
  | succ d ih =>
    intro k x i p hk hd hi hx h0 h1
    obtain ⟨k, rfl⟩ : ∃ j, k = j + 1 := ⟨k - 1, by omega⟩
    simp only [spec_l71Big.l0]
    rw [if_pos (by omega)]
    obtain ⟨v, e, _, _⟩ := pick_eq hs k p 32768 (by omega) h0 (by omega)
    rw [e]
    simp only [Option.bind_some]
    rw [wrap_id (x := i + 1) (by omega) (by omega)]
    obtain ⟨r, p', e2, h2, h3, h4⟩ := ih k (wrap64 (wrap64 (x * 32768) + v)) (i + 1) (p + 1) (by omega) (by omega) (by omega) (wrap_i64 _) (by omega) (by omega)
    exact ⟨r, p', e2, h2, by omega, by omega⟩
theorem big_eq {s : List Int} (hs : Bytes s) (k : Nat) (p m : Int) (hk : 8 ≤ k) (hm : 0 ≤ m) (hm2 : m ≤ 9223372036854775807) (h0 : 0 ≤ p) (h1 : p ≤ 7000) :
    ∃ r p', spec_l71Big.f k s p m = some (r, p') ∧ I64 r ∧ p ≤ p' ∧ p' ≤ p + 10 := by
  unfold spec_l71Big.f
  obtain ⟨v, e, _, _⟩ := pick_eq hs k p 6 (by omega) h0 (by omega)
  rw [e]
  simp only [Option.bind_some]
  split
  · obtain ⟨v, e, _, _⟩ := pick_eq hs k (p + 1) 7 (by omega) (by omega) (by omega)
    rw [e]
    simp only [Option.bind_some]
    obtain ⟨r, p', e, h⟩ := big_j1 hs k m (wrap64 (v - 3)) (p + 1 + 1) (by omega) hm hm2 (wrap_i64 _) (by omega) (by omega)
    exact ⟨r, p', e, h.1, by omega, by omega⟩
  split
  · obtain ⟨v, e, _, _⟩ := pick_eq hs k (p + 1) 3 (by omega) (by omega) (by omega)
    rw [e]
    simp only [Option.bind_some]
    obtain ⟨r, p', e, h⟩ := big_j1 hs k m (wrap64 (m - v)) (p + 1 + 1) (by omega) hm hm2 (wrap_i64 _) (by omega) (by omega)
    exact ⟨r, p', e, h.1, by omega, by omega⟩
  split
  · obtain ⟨v, e, g0, g1⟩ := pick_eq hs k (p + 1) 1048576 (by omega) (by omega) (by omega)
    rw [e]
    simp only [Option.bind_some]
    have g2 := g1 (by omega)
    obtain ⟨r, p', e, h⟩ := big_j1 hs k m v (p + 1 + 1) (by omega) hm hm2 (by unfold I64; omega) (by omega) (by omega)
    exact ⟨r, p', e, h.1, by omega, by omega⟩
  · obtain ⟨r, p', e, h⟩ := big_l0 hs m hm hm2 4 k 0 0 (p + 1) (by omega) (by omega) (by omega) (by unfold I64; omega) (by omega) (by omega)
    exact ⟨r, p', e, h.1, by omega, by omega⟩
theorem rd3 (a b c v : Int) (ha : I64 a) (hb : I64 b) (hc : I64 c) : I64 (rd [a, b, c] v) := by
  unfold rd
  rcases hv : v.toNat with _ | _ | _ | n
  · exact ha
  · exact hb
  · exact hc
  · simp [I64]
theorem rd4 (a b c d v : Int) (ha : I64 a) (hb : I64 b) (hc : I64 c) (hd : I64 d) : I64 (rd [a, b, c, d] v) := by
  unfold rd
  rcases hv : v.toNat with _ | _ | _ | _ | n
  · exact ha
  · exact hb
  · exact hc
  · exact hd
  · simp [I64]
theorem divided_j0 {s : List Int} (hs : Bytes s) (k : Nat) (a b v p : Int) (t : Bool) (hk : 9 ≤ k) (ha : I64 a) (hb : I64 b) (h0 : 0 ≤ p) (h1 : p ≤ 4000) :
    ∃ x y p', spec_l71Divided.j0 k a b v t s p = some (x, y, p') ∧ I64 x ∧ I64 y ∧ p ≤ p' ∧ p' ≤ p + 20 := by
  obtain ⟨k, rfl⟩ : ∃ j, k = j + 1 := ⟨k - 1, by omega⟩
  simp only [spec_l71Divided.j0]
  obtain ⟨u1, e1, _, _⟩ := pick_eq hs k p 1000 (by omega) h0 (by omega)
  obtain ⟨r, p2, e2, i2, q2, q2'⟩ := big_eq hs k (p + 1) 100000 (by omega) (by omega) (by omega) (by omega) (by omega)
  obtain ⟨u3, e3, _, _⟩ := pick_eq hs k p 1048576 (by omega) h0 (by omega)
  obtain ⟨u4, e4, _, _⟩ := pick_eq hs k (p + 1) 50 (by omega) (by omega) (by omega)
  obtain ⟨u5, e5, _, _⟩ := pick_eq hs k (p + 1 + 1) 2 (by omega) (by omega) (by omega)
  obtain ⟨u6, e6, g6, l6⟩ := pick_eq hs k p 3 (by omega) h0 (by omega)
  obtain ⟨u7, e7, g7, l7⟩ := pick_eq hs k (p + 1) 4 (by omega) (by omega) (by omega)
  split
  · rw [e1]; simp only [Option.bind_some]
    rw [e2]; simp only [Option.bind_some]
    exact ⟨_, _, _, rfl, i2, wrap_i64 _, by omega, by omega⟩
  split
  · rw [e3]; simp only [Option.bind_some]
    rw [e4]; simp only [Option.bind_some]
    rw [e5]; simp only [Option.bind_some]
    exact ⟨_, _, _, rfl, wrap_i64 _, wrap_i64 _, by omega, by omega⟩
  split
  · simp only [Option.bind_some]
    rw [e6]; simp only [Option.bind_some]
    have l6 := l6 (by omega)
    have l7 := l7 (by omega)
    rw [if_pos g6, if_pos (by simpa using l6), e7]; simp only [Option.bind_some]
    rw [if_pos g7, if_pos (by simpa using l7)]
    exact ⟨_, _, _, rfl, rd3 _ _ _ _ (by unfold I64; omega) (by unfold I64; omega) (by unfold I64; omega), rd4 _ _ _ _ _ (by unfold I64; omega) (by unfold I64; omega) (by unfold I64; omega) (by unfold I64; omega), by omega, by omega⟩
  · exact ⟨_, _, _, rfl, ha, hb, by omega, by omega⟩
theorem divided_eq {s : List Int} (hs : Bytes s) (k : Nat) (p : Int) (hk : 9 ≤ k) (h0 : 0 ≤ p) (h1 : p ≤ 3000) :
    ∃ x y p', spec_l71Divided.f k s p = some (x, y, p') ∧ I64 x ∧ I64 y ∧ p ≤ p' ∧ p' ≤ p + 60 := by
  unfold spec_l71Divided.f
  obtain ⟨a, p1, e1, i1, q1, q1'⟩ := big_eq hs k p 1152921504606846976 (by omega) (by omega) (by omega) h0 (by omega)
  obtain ⟨b, p2, e2, i2, q2, q2'⟩ := big_eq hs k p1 1152921504606846976 (by omega) (by omega) (by omega) (by omega) (by omega)
  obtain ⟨v, e3, _, _⟩ := pick_eq hs k p2 8 (by omega) (by omega) (by omega)
  rw [e1]; simp only [Option.bind_some]
  rw [e2]; simp only [Option.bind_some]
  rw [e3]; simp only [Option.bind_some]
  have hb : I64 (mx b 1) := by unfold I64 mx at *; omega
  repeat' split
  all_goals
    obtain ⟨x, y, p', e, g1, g2, g3, g4⟩ := divided_j0 hs k a (mx b 1) v (p2 + 1) _ (by omega) i1 hb (by omega) (by omega)
    exact ⟨x, y, p', e, g1, g2, by omega, by omega⟩
theorem rd3w (a b c v : Int) (ha : I64 a) (hb : I64 b) (hc : I64 c) : I64 (rd [a, b, c] v) := by
  unfold rd
  rcases hv : v.toNat with _ | _ | _ | n
  · exact ha
  · exact hb
  · exact hc
  · simp [I64]
theorem way_eq {s : List Int} (hs : Bytes s) (k : Nat) (p : Int) (hk : 1 ≤ k) (h0 : 0 ≤ p) (h1 : p ≤ 5000) :
    ∃ w p', spec_l71Way.f k s p = some (w, p') ∧ I64 w ∧ p ≤ p' ∧ p' ≤ p + 2 := by
  unfold spec_l71Way.f
  obtain ⟨v, e1, _, _⟩ := pick_eq hs k p 20 (by omega) (by omega) (by omega)
  obtain ⟨u, e2, g2, l2⟩ := pick_eq hs k (p + 1) 3 (by omega) (by omega) (by omega)
  obtain ⟨u4, e4, _, _⟩ := pick_eq hs k (p + 1) 4 (by omega) (by omega) (by omega)
  rw [e1]; simp only [Option.bind_some]
  split
  · have l2 := l2 (by omega)
    rw [e2]; simp only [Option.bind_some]
    rw [if_pos g2, if_pos (by simpa using l2)]
    exact ⟨_, _, rfl, rd3w _ _ _ _ (by unfold I64; omega) (by unfold I64; omega) (by unfold I64; omega), by omega, by omega⟩
  · rw [e4]; simp only [Option.bind_some]
    exact ⟨_, _, rfl, wrap_i64 _, by omega, by omega⟩
theorem drawNumRound_eq (k : Nat) (hk : 9 ≤ k) (l : List Int) (h : ∀ x ∈ l, (Lit.int .u8 x).wf = true) : ∃ a b w, spec_DrawNumRound.f k l = some (a, b, w) ∧ I64 a ∧ I64 b ∧ I64 w := by
  unfold spec_DrawNumRound.f
  obtain ⟨s, e, hs⟩ := l6Open_eq l h
  obtain ⟨a, b, p, e2, i1, i2, _, _⟩ := divided_eq hs k 0 hk (by omega) (by omega)
  obtain ⟨v, e3, _, _⟩ := pick_eq hs k p 3 (by omega) (by omega) (by omega)
  obtain ⟨v4, e4, _, _⟩ := pick_eq hs k (p + 1) 9 (by omega) (by omega) (by omega)
  obtain ⟨v5, e5, _, _⟩ := pick_eq hs k (p + 1 + 1) 30 (by omega) (by omega) (by omega)
  obtain ⟨w1, p1, e6, i6, _, _⟩ := way_eq hs k (p + 1 + 1 + 1) (by omega) (by omega) (by omega)
  obtain ⟨w2, p2, e7, i7, _, _⟩ := way_eq hs k (p + 1) (by omega) (by omega) (by omega)
  rw [e]; simp only [Option.bind_some]
  rw [e2]; simp only [Option.bind_some]
  rw [e3]; simp only [Option.bind_some]
  split
  · rw [e4]; simp only [Option.bind_some]
    rw [e5]; simp only [Option.bind_some]
    rw [e6]; simp only [Option.bind_some]
    exact ⟨_, _, _, rfl, wrap_i64 _, wrap_i64 _, i6⟩
  · rw [e7]; simp only [Option.bind_some]
    exact ⟨_, _, _, rfl, i1, i2, i7⟩
end FnNumWhole
open FnNumWhole
theorem FnNumWhole : laws_FnNumWhole.Pure := by
  refine ⟨fun a0 a1 a2 r1 r2 h1 h2 => Option.some.inj (h2.symm.trans ((impl_NumRound_eq a0 a1 a2).trans ((spec_NumRound_eq a0 a1 a2).symm.trans h1))), ?_⟩
  intro l0 m0 y0 w0
  refine ⟨2000000102, ?_⟩
  have main : ∀ (k : Nat), 2000000102 ≤ k → laws_FnNumWhole.f k l0 = some true := by
    intro k hk
    obtain ⟨k, rfl⟩ : ∃ j, k = j + 1 := ⟨k - 1, by omega⟩
    unfold laws_FnNumWhole.f
    by_cases c0 : (l0.length : Int) > 1048576
    · rw [if_pos c0]
    · rw [if_neg c0]
      obtain ⟨a, b, w, e, i1, i2, i3⟩ := drawNumRound_eq (k + 1) (by omega) l0 w0
      simp only [e, spec_NumRound_eq, impl_NumRound_eq, Bool.false_eq_true, if_false, if_true, eq_self, Option.bind_some, bne_self_eq_false, beq_self_eq_true, Bool.not_true, Bool.not_false, Bool.or_self, Bool.and_self]
      rcases hv : numRound a b w with ⟨x, o⟩
      cases o with
      | false => simp
      | true =>
        obtain ⟨c, rfl⟩ := numRound_in hv
        rw [Bool.and_eq_true] at c
        obtain ⟨c1, c2⟩ := c
        have k1 := divb_true.mp c1
        have k2 := wayb_true.mp c2

        have c3 : divb a 1 = true := divb_true.mpr (by omega)
        simp only [numRound_mk c3 c2, rnd_whole c2, Bool.false_eq_true, if_false, if_true, eq_self, Option.bind_some, bne_self_eq_false, beq_self_eq_true, Bool.not_true, Bool.not_false, Bool.or_self, Bool.and_self]
  exact main _ (by omega)
end Go.Proofs.Ytjhlkdmhlgghbaa.Pure
