/- What is in both spans is in what both have, as the law of the program's SpanMeet says it. No condition. -/
import Derived.Test.YtbdlfopkdplgcaaQFnSpanMeetx5
import Derived.Test.YtbdlfopkdplgcaaModel
namespace Go.Proofs.Ytbdlfopkdplgcaa.Pure
open Go.RowKit Go.Proofs.Ytbdlfopkdplgcaa.PFnSpanMeet Go.Proofs.YtbdlfopkdplgcaaW.PrintWords Go.Proofs.YtbdlfopkdplgcaaW.PrintLast Go.Proofs.Ytbdlfopkdplgcaa.Math
set_option linter.unusedVariables false
set_option linter.unusedSimpArgs false
namespace FnSpanMeet
theorem l6In_eq (a l h : Int) : spec_l6In.f a l h = some (decide (l ≤ a ∧ a ≤ h)) := by
  unfold spec_l6In.f
  by_cases c : a ≥ l
  · rw [if_pos c]; congr 1; rw [decide_eq_decide]; omega
  · rw [if_neg c]; congr 1; symm; rw [decide_eq_false_iff_not]; omega
theorem in_eq (a l h : Int) : impl_in.f a l h = some (decide (l ≤ a ∧ a ≤ h)) := by
  unfold impl_in.f
  by_cases c : l ≤ a
  · rw [if_pos c]; congr 1; rw [decide_eq_decide]; omega
  · rw [if_neg c]; congr 1; symm; rw [decide_eq_false_iff_not]; omega
theorem spec_SpanOk_eq (a b : Int) : spec_SpanOk.f a b = some (okb a b) := by
  unfold spec_SpanOk.f okb
  simp only [l6In_eq, Option.bind_some]
  by_cases c : -1073000000 ≤ a ∧ a ≤ 1073000000
  · rw [decide_eq_true c, if_pos rfl]; congr 1; rw [decide_eq_decide]; omega
  · rw [decide_eq_false c, if_neg (by decide)]; congr 1; symm; rw [decide_eq_false_iff_not]; omega
theorem impl_SpanOk_eq (a b : Int) : impl_SpanOk.f a b = some (okb a b) := by
  unfold impl_SpanOk.f okb
  simp only [in_eq, Option.bind_some]
  by_cases c : -1073000000 ≤ a ∧ a ≤ 1073000000
  · rw [decide_eq_true c, if_pos rfl]
    by_cases c2 : -1073000000 ≤ b ∧ b ≤ 1073000000
    · rw [decide_eq_true c2, if_pos rfl]; congr 1; rw [decide_eq_decide]; omega
    · rw [decide_eq_false c2, if_neg (by decide)]; congr 1; symm; rw [decide_eq_false_iff_not]; omega
  · rw [decide_eq_false c, if_neg (by decide)]; congr 1; symm; rw [decide_eq_false_iff_not]; omega
theorem l2Fit_eq (a b : Int) : spec_l2Fit.f a b = some (told a b) := by
  unfold spec_l2Fit.f told
  rw [spec_SpanOk_eq]
  simp only [Option.bind_some]
  split <;> rfl
theorem told_eq (a b : Int) : impl_told.f a b = some (told a b) := by
  unfold impl_told.f told
  rw [impl_SpanOk_eq]
  simp only [Option.bind_some]
  split <;> rfl
theorem isNumber_eq (a b : Int) : impl_isNumber.f a b = some (ratb a b) := by
  unfold impl_isNumber.f ratb
  simp only [in_eq, Option.bind_some]
  by_cases c : -1000000000 ≤ a ∧ a ≤ 1000000000
  · rw [decide_eq_true c, if_pos rfl]; congr 1; rw [decide_eq_decide]; omega
  · rw [decide_eq_false c, if_neg (by decide)]; congr 1; symm; rw [decide_eq_false_iff_not]; omega
theorem impl_SpanHas_eq (l h a b : Int) : impl_SpanHas.f l h a b = some (spanHas l h a b) := by
  unfold impl_SpanHas.f spanHas
  simp only [impl_SpanOk_eq, isNumber_eq, in_eq, Option.bind_some]
  cases c1 : okb l h
  · simp
  · cases c2 : ratb a b
    · simp
    · have k1 := okb_true.mp c1
      have k2 := ratb_true.mp c2
      have h1 := mul_bd (x := l) (y := b) (m := 1073000000) (n := 1000000000) (by omega) (by omega) (by omega) (by omega)
      have h2 := mul_bd (x := h) (y := b) (m := 1073000000) (n := 1000000000) (by omega) (by omega) (by omega) (by omega)
      rw [wrap_id (x := l * b) (by omega) (by omega), wrap_id (x := h * b) (by omega) (by omega), wrap_id (x := a * 1000000000) (by omega) (by omega)]
      by_cases c3 : l * b ≤ a * 1000000000 <;> simp [c3]
theorem impl_SpanWithin_eq (l h l' h' : Int) : impl_SpanWithin.f l h l' h' = some (spanWithin l h l' h') := by
  unfold impl_SpanWithin.f spanWithin
  simp only [impl_SpanOk_eq, Option.bind_some]
  cases c1 : okb l h <;> cases c2 : okb l' h' <;> by_cases c3 : l' ≤ l <;> simp [c3]
def Bytes (s : List Int) : Prop := s.length ≤ 2000 ∧ ∀ x ∈ s, 0 ≤ x ∧ x ≤ 255
theorem bytes_rd {s : List Int} (h : Bytes s) (i : Int) : 0 ≤ rd s i ∧ rd s i ≤ 255 := by
  unfold rd
  by_cases c : i.toNat < s.length
  · rw [List.getD_eq_getElem?_getD, List.getElem?_eq_getElem c, Option.getD_some]
    exact h.2 _ (List.getElem_mem c)
  · rw [List.getD_eq_getElem?_getD, List.getElem?_eq_none (by omega), Option.getD_none]; omega
theorem l6Open_eq (l : List Int) (h : ∀ x ∈ l, (Lit.int .u8 x).wf = true) : ∃ s, spec_l6Open.f l = some (s, 0) ∧ Bytes s := by
  have hb : ∀ x ∈ l, 0 ≤ x ∧ x ≤ 255 := by
    intro x hx
    have := h x hx
    simp [Lit.wf, IntKind.bits, IntKind.signed, IntKind.min, IntKind.max] at this
    omega
  unfold spec_l6Open.f
  by_cases c : (l.length : Int) > 2000
  · rw [if_pos c, if_pos (by omega)]
    exact ⟨_, rfl, by rw [List.length_take]; omega, fun x hx => hb x (List.mem_of_mem_take hx)⟩
  · rw [if_neg c]
    exact ⟨_, rfl, by omega, hb⟩
theorem pick_eq {s : List Int} (hs : Bytes s) (k : Nat) (p n : Int) (hk : 1 ≤ k) (h0 : 0 ≤ p) (h1 : p ≤ 10000) :
    ∃ v, spec_l6Rd_pick.f k s p n = some (v, p + 1) ∧ 0 ≤ v ∧ (1 ≤ n → v < n) := by
  obtain ⟨k, rfl⟩ : ∃ m, k = m + 1 := ⟨k - 1, by omega⟩
  unfold spec_l6Rd_pick.f
  rw [wrap_id (x := p + 1) (by omega) (by omega)]
  by_cases c : n < 1
  · rw [if_pos c]; simp only [spec_l6Rd_pick.j0, if_true]
    exact ⟨0, rfl, by omega, by omega⟩
  · rw [if_neg c]
    by_cases c2 : (s.length : Int) = 0
    · rw [show ((s.length : Int) == 0) = true by rw [c2]; rfl]; simp only [spec_l6Rd_pick.j0, if_true]
      exact ⟨0, rfl, by omega, by omega⟩
    · have hl := hs.1
      rw [show ((s.length : Int) == 0) = false from beq_eq_false_iff_ne.mpr c2]; simp only [spec_l6Rd_pick.j0, Bool.false_eq_true, if_false]
      rw [show p + 1 - 1 = p by omega, wrap_id (x := p) (by omega) (by omega)]
      by_cases c3 : p < (s.length : Int)
      · rw [if_pos c3, if_pos h0, if_neg (by omega)]
        have hr := bytes_rd hs p
        rw [wrap_id (x := rd s p) (by omega) (by omega)]
        exact ⟨_, rfl, Int.tmod_nonneg _ hr.1, fun _ => Int.tmod_lt_of_pos _ (by omega)⟩
      · have hd := tdiv_pos (b := (s.length : Int)) h0
        have hd0 : 0 ≤ p / (s.length : Int) := Int.ediv_nonneg h0 (by omega)
        have hd1 : p / (s.length : Int) ≤ p := Int.ediv_le_self _ h0
        rw [if_neg c3, if_neg c2, wrap_id (x := p * 7) (by omega) (by omega), wrap_id (x := p * 7 + 3) (by omega) (by omega), if_pos (Int.tmod_nonneg _ h0), if_pos (Int.tmod_lt_of_pos _ (by omega)),
          if_pos (Int.tmod_nonneg _ (by omega)), if_pos (Int.tmod_lt_of_pos _ (by omega)), if_neg (by omega)]
        have ha := bytes_rd hs (Int.tmod p (s.length : Int))
        have hb := bytes_rd hs (Int.tmod (p * 7 + 3) (s.length : Int))
        rw [hd]
        generalize rd s (Int.tmod p (s.length : Int)) = a at *
        generalize rd s (Int.tmod (p * 7 + 3) (s.length : Int)) = b at *
        generalize p / (s.length : Int) = q at *
        rw [wrap_id (x := a) (by omega) (by omega), wrap_id (x := b) (by omega) (by omega), wrap_id (x := q) (by omega) (by omega), wrap_id (x := a * 131) (by omega) (by omega), wrap_id (x := b * 1117) (by omega) (by omega),
          wrap_id (x := p * 29) (by omega) (by omega), wrap_id (x := q * 53) (by omega) (by omega), wrap_id (x := a * 131 + b * 1117) (by omega) (by omega), wrap_id (x := a * 131 + b * 1117 + p * 29) (by omega) (by omega),
          wrap_id (x := a * 131 + b * 1117 + p * 29 + q * 53) (by omega) (by omega), tdiv_pos (a := a * 131 + b * 1117 + p * 29 + q * 53) (by omega)]
        have hx0 : 0 ≤ a * 131 + b * 1117 + p * 29 + q * 53 ∧ a * 131 + b * 1117 + p * 29 + q * 53 ≤ 100000000000 := by omega
        generalize a * 131 + b * 1117 + p * 29 + q * 53 = x at *
        by_cases hx : 0 ≤ x ∧ x ≤ 100000000000
        · rw [wrap_id (x := x / 64) (by omega) (by omega)]
          have hz := xor_nonneg (x := x) (y := x / 64) (by omega) (by omega) (by omega) (by omega)
          exact ⟨_, rfl, Int.tmod_nonneg _ hz.1, fun _ => Int.tmod_lt_of_pos _ (by omega)⟩
        · exact absurd hx0 hx
theorem big_j1 {s : List Int} (hs : Bytes s) (k : Nat) (m x p : Int) (hk : 2 ≤ k) (hm : 0 ≤ m) (hm2 : m ≤ 9223372036854775807) (hx : I64 x) (h0 : 0 ≤ p) (h1 : p ≤ 9000) :
    ∃ r p', spec_l71Big.j1 k m x s p = some (r, p') ∧ I64 r ∧ p ≤ p' ∧ p' ≤ p + 1 := by
  obtain ⟨k, rfl⟩ : ∃ j, k = j + 1 := ⟨k - 1, by omega⟩
  simp only [spec_l71Big.j1]
  by_cases c : x < 0
  · rw [if_pos c]; exact ⟨_, _, rfl, hx, by omega, by omega⟩
  · have hw : wrap64 (m + 1) ≠ 0 := by unfold wrap64; omega
    rw [if_neg c, if_neg hw]
    obtain ⟨v, e, _, _⟩ := pick_eq hs k p 2 (by omega) h0 (by omega)
    rw [e]
    simp only [Option.bind_some]
    have ht : I64 (Int.tmod x (wrap64 (m + 1))) := by
      have a1 := Int.tmod_nonneg (a := x) (wrap64 (m + 1)) (by omega)
      have a2 : Int.tmod x (wrap64 (m + 1)) ≤ x := by
        have := Int.natAbs_tmod x (wrap64 (m + 1))
        have := Nat.mod_le x.natAbs (wrap64 (m + 1)).natAbs
        omega
      unfold I64 at *; omega
    split
    · exact ⟨_, _, rfl, wrap_i64 _, by omega, by omega⟩
    · exact ⟨_, _, rfl, ht, by omega, by omega⟩
theorem big_l0 {s : List Int} (hs : Bytes s) (m : Int) (hm : 0 ≤ m) (hm2 : m ≤ 9223372036854775807) (d : Nat) : ∀ (k : Nat) (x i p : Int), d + 3 ≤ k → d ≤ 4 → i = 4 - d → I64 x → 0 ≤ p → p + d ≤ 8000 →
    ∃ r p', spec_l71Big.l0 k m x i s p = some (r, p') ∧ I64 r ∧ p ≤ p' ∧ p' ≤ p + d + 1 := by
  induction d with
  | zero =>
    intro k x i p hk hd hi hx h0 h1
    obtain ⟨k, rfl⟩ : ∃ j, k = j + 1 := ⟨k - 1, by omega⟩
    simp only [spec_l71Big.l0]
    rw [if_neg (by omega)]
    obtain ⟨r, p', e, h⟩ := big_j1 hs k m x p (by omega) hm hm2 hx h0 (by omega)
    exact ⟨r, p', e, h.1, by omega, by omega⟩
  | succ d ih =>
    intro k x i p hk hd hi hx h0 h1
    obtain ⟨k, rfl⟩ : ∃ j, k = j + 1 := ⟨k - 1, by omega⟩
    simp only [spec_l71Big.l0]
    rw [if_pos (by omega)]
    obtain ⟨v, e, _, _⟩ := pick_eq hs k p 32768 (by omega) h0 (by omega)
    rw [e]
    simp only [Option.bind_some]
    rw [wrap_id (x := i + 1) (by omega) (by omega)]
    obtain ⟨r, p', e2, h2, h3, h4⟩ := ih k (wrap64 (wrap64 (x * 32768) + v)) (i + 1) (p + 1) (by omega) (by omega) (by omega) (wrap_i64 _) (by omega) (by omega)
    exact ⟨r, p', e2, h2, by omega, by omega⟩
theorem big_eq {s : List Int} (hs : Bytes s) (k : Nat) (p m : Int) (hk : 8 ≤ k) (hm : 0 ≤ m) (hm2 : m ≤ 9223372036854775807) (h0 : 0 ≤ p) (h1 : p ≤ 7000) :
    ∃ r p', spec_l71Big.f k s p m = some (r, p') ∧ I64 r ∧ p ≤ p' ∧ p' ≤ p + 10 := by
  unfold spec_l71Big.f
  obtain ⟨v, e, _, _⟩ := pick_eq hs k p 6 (by omega) h0 (by omega)
  rw [e]
  simp only [Option.bind_some]
  split
  · obtain ⟨v, e, _, _⟩ := pick_eq hs k (p + 1) 7 (by omega) (by omega) (by omega)
    rw [e]
    simp only [Option.bind_some]
    obtain ⟨r, p', e, h⟩ := big_j1 hs k m (wrap64 (v - 3)) (p + 1 + 1) (by omega) hm hm2 (wrap_i64 _) (by omega) (by omega)
    exact ⟨r, p', e, h.1, by omega, by omega⟩
  split
  · obtain ⟨v, e, _, _⟩ := pick_eq hs k (p + 1) 3 (by omega) (by omega) (by omega)
    rw [e]
    simp only [Option.bind_some]
    obtain ⟨r, p', e, h⟩ := big_j1 hs k m (wrap64 (m - v)) (p + 1 + 1) (by omega) hm hm2 (wrap_i64 _) (by omega) (by omega)
    exact ⟨r, p', e, h.1, by omega, by omega⟩
  split
  · obtain ⟨v, e, g0, g1⟩ := pick_eq hs k (p + 1) 1048576 (by omega) (by omega) (by omega)
    rw [e]
    simp only [Option.bind_some]
    have g2 := g1 (by omega)
    obtain ⟨r, p', e, h⟩ := big_j1 hs k m v (p + 1 + 1) (by omega) hm hm2 (by unfold I64; omega) (by omega) (by omega)
    exact ⟨r, p', e, h.1, by omega, by omega⟩
  · obtain ⟨r, p', e, h⟩ := big_l0 hs m hm hm2 4 k 0 0 (p + 1) (by omega) (by omega) (by omega) (by unfold I64; omega) (by omega) (by omega)
    exact ⟨r, p', e, h.1, by omega, by omega⟩
theorem spec_SpanMeet_eq (l h l' h' : Int) : spec_SpanMeet.f l h l' h' = some (spanMeet l h l' h') := by
  unfold spec_SpanMeet.f spanMeet
  simp only [spec_SpanOk_eq, l2Fit_eq, Option.bind_some]
  cases c1 : okb l h <;> cases c2 : okb l' h' <;> simp
theorem impl_SpanMeet_eq (l h l' h' : Int) : impl_SpanMeet.f l h l' h' = some (spanMeet l h l' h') := by
  unfold impl_SpanMeet.f spanMeet
  simp only [impl_SpanOk_eq, told_eq, Option.bind_some]
  cases c1 : okb l h <;> cases c2 : okb l' h' <;> simp
theorem mn_i64 {a b : Int} (h0 : I64 a) (h1 : I64 b) : I64 (mn a b) := by unfold I64 mn at *; omega
theorem mx_i64 {a b : Int} (h0 : I64 a) (h1 : I64 b) : I64 (mx a b) := by unfold I64 mx at *; omega
theorem span_j0 {s : List Int} (hs : Bytes s) (k : Nat) (x y p : Int) (hk : 2 ≤ k) (hx : I64 x) (hy : I64 y) (h0 : 0 ≤ p) (h1 : p ≤ 6000) :
    ∃ l h p', spec_l71Span.j0 k x y s p = some (l, h, p') ∧ I64 l ∧ I64 h ∧ p ≤ p' ∧ p' ≤ p + 2 := by
  obtain ⟨k, rfl⟩ : ∃ j, k = j + 1 := ⟨k - 1, by omega⟩
  simp only [spec_l71Span.j0]
  have gl := mn_i64 hx hy
  have gh := mx_i64 hx hy
  obtain ⟨v, e, _, _⟩ := pick_eq hs k p 24 (by omega) h0 (by omega)
  obtain ⟨v2, e2, _, _⟩ := pick_eq hs k (p + 1) 2 (by omega) (by omega) (by omega)
  have i1 : I64 1073000000 := by unfold I64; omega
  have i2 : I64 1073000001 := by unfold I64; omega
  rw [e]
  simp only [Option.bind_some, e2, if_true]
  repeat' split
  all_goals first | exact ⟨_, _, _, rfl, gl, i1, by omega, by omega⟩ | exact ⟨_, _, _, rfl, gl, i2, by omega, by omega⟩ | exact ⟨_, _, _, rfl, gl, wrap_i64 _, by omega, by omega⟩ | exact ⟨_, _, _, rfl, gl, gh, by omega, by omega⟩
theorem span_eq {s : List Int} (hs : Bytes s) (k : Nat) (p : Int) (hk : 8 ≤ k) (h0 : 0 ≤ p) (h1 : p ≤ 5000) :
    ∃ l h p', spec_l71Span.f k s p = some (l, h, p') ∧ I64 l ∧ I64 h ∧ p ≤ p' ∧ p' ≤ p + 30 := by
  unfold spec_l71Span.f
  obtain ⟨a, p1, e1, i1, q1, q1'⟩ := big_eq hs k p 1073000000 hk (by omega) (by omega) h0 (by omega)
  obtain ⟨b, p2, e2, i2, q2, q2'⟩ := big_eq hs k p1 1073000000 hk (by omega) (by omega) (by omega) (by omega)
  obtain ⟨v, e3, _, _⟩ := pick_eq hs k p2 5 (by omega) (by omega) (by omega)
  obtain ⟨v2, e4, _, _⟩ := pick_eq hs k (p2 + 1) 100 (by omega) (by omega) (by omega)
  rw [e1]; simp only [Option.bind_some]
  rw [e2]; simp only [Option.bind_some]
  rw [e3]; simp only [Option.bind_some, e4]
  split
  · obtain ⟨l, h, p', e, g1, g2, g3, g4⟩ := span_j0 hs k a a (p2 + 1) (by omega) i1 i1 (by omega) (by omega)
    exact ⟨l, h, p', e, g1, g2, by omega, by omega⟩
  split
  · obtain ⟨l, h, p', e, g1, g2, g3, g4⟩ := span_j0 hs k a (wrap64 (a + v2)) (p2 + 1 + 1) (by omega) i1 (wrap_i64 _) (by omega) (by omega)
    exact ⟨l, h, p', e, g1, g2, by omega, by omega⟩
  split
  · obtain ⟨l, h, p', e, g1, g2, g3, g4⟩ := span_j0 hs k a (wrap64 (a + v2)) (p2 + 1 + 1) (by omega) i1 (wrap_i64 _) (by omega) (by omega)
    exact ⟨l, h, p', e, g1, g2, by omega, by omega⟩
  · obtain ⟨l, h, p', e, g1, g2, g3, g4⟩ := span_j0 hs k a b (p2 + 1) (by omega) i1 i2 (by omega) (by omega)
    exact ⟨l, h, p', e, g1, g2, by omega, by omega⟩
theorem rd3r (a b c v : Int) (ha : I64 a) (hb : I64 b) (hc : I64 c) : I64 (rd [a, b, c] v) := by
  unfold rd
  rcases hv : v.toNat with _ | _ | _ | n
  · exact ha
  · exact hb
  · exact hc
  · simp [I64]
theorem mx_one (b : Int) : mx (mx b 1) 1 = mx b 1 := by unfold mx; omega
theorem rat_eq {s : List Int} (hs : Bytes s) (k : Nat) (p : Int) (hk : 8 ≤ k) (h0 : 0 ≤ p) (h1 : p ≤ 5000) :
    ∃ a b p', spec_l71Rat.f k s p = some (a, b, p') ∧ I64 a ∧ I64 b ∧ p ≤ p' ∧ p' ≤ p + 30 := by
  unfold spec_l71Rat.f
  obtain ⟨v, e1, _, _⟩ := pick_eq hs k p 1000 (by omega) (by omega) (by omega)
  obtain ⟨u, e2, _, _⟩ := pick_eq hs k (p + 1) 6 (by omega) (by omega) (by omega)
  rw [e1]; simp only [Option.bind_some]
  rw [e2]; simp only [Option.bind_some]
  split
  · obtain ⟨b, p1, e3, i3, q3, q3'⟩ := big_eq hs k (p + 1 + 1) 1000000000 (by omega) (by omega) (by omega) (by omega) (by omega)
    have hb : I64 (mx b 1) ∧ 0 ≤ mx b 1 := by unfold I64 mx at *; omega
    obtain ⟨a, p2, e4, i4, q4, q4'⟩ := big_eq hs k p1 (mx b 1) (by omega) hb.2 hb.1.2 (by omega) (by omega)
    rw [e3]; simp only [Option.bind_some, mx_one]
    rw [e4]; simp only [Option.bind_some]
    exact ⟨_, _, _, rfl, i4, hb.1, by omega, by omega⟩
  split
  · obtain ⟨w, e3, g3, l3⟩ := pick_eq hs k (p + 1 + 1) 3 (by omega) (by omega) (by omega)
    have l3 := l3 (by omega)
    have hb := rd3r 0 (-1) 1000000001 w (by unfold I64; omega) (by unfold I64; omega) (by unfold I64; omega)
    have hb2 : I64 (mx (rd [0, -1, 1000000001] w) 1) ∧ 0 ≤ mx (rd [0, -1, 1000000001] w) 1 := by unfold I64 mx at *; omega
    obtain ⟨a, p2, e4, i4, q4, q4'⟩ := big_eq hs k (p + 1 + 1 + 1) (mx (rd [0, -1, 1000000001] w) 1) (by omega) hb2.2 hb2.1.2 (by omega) (by omega)
    rw [e3]; simp only [Option.bind_some]
    rw [if_pos g3, if_pos (by simpa using l3), e4]; simp only [Option.bind_some]
    exact ⟨_, _, _, rfl, i4, hb, by omega, by omega⟩
  · have hb := wrap_i64 (1 + v)
    have hb2 : I64 (mx (wrap64 (1 + v)) 1) ∧ 0 ≤ mx (wrap64 (1 + v)) 1 := by unfold I64 mx at *; omega
    obtain ⟨a, p2, e4, i4, q4, q4'⟩ := big_eq hs k (p + 1 + 1) (mx (wrap64 (1 + v)) 1) (by omega) hb2.2 hb2.1.2 (by omega) (by omega)
    rw [e4]; simp only [Option.bind_some]
    exact ⟨_, _, _, rfl, i4, hb, by omega, by omega⟩
theorem drawSpanOf_eq (k : Nat) (hk : 9 ≤ k) (l : List Int) (h : ∀ x ∈ l, (Lit.int .u8 x).wf = true) : ∃ a b, spec_DrawSpanOf.f k l = some (a, b) ∧ I64 a ∧ I64 b := by
  unfold spec_DrawSpanOf.f
  obtain ⟨s, e, hs⟩ := l6Open_eq l h
  obtain ⟨a, b, p, e2, i1, i2, _, _⟩ := rat_eq hs k 0 (by omega) (by omega) (by omega)
  rw [e]; simp only [Option.bind_some]
  rw [e2]; simp only [Option.bind_some]
  exact ⟨_, _, rfl, i1, i2⟩
theorem drawSpanMeet_eq (k : Nat) (hk : 9 ≤ k) (l : List Int) (h : ∀ x ∈ l, (Lit.int .u8 x).wf = true) : ∃ x y a b, spec_DrawSpanMeet.f k l = some (x, y, a, b) ∧ I64 x ∧ I64 y ∧ I64 a ∧ I64 b := by
  unfold spec_DrawSpanMeet.f
  obtain ⟨s, e, hs⟩ := l6Open_eq l h
  obtain ⟨x, y, p, e2, i1, i2, _, _⟩ := span_eq hs k 0 (by omega) (by omega) (by omega)
  obtain ⟨v, e3, _, _⟩ := pick_eq hs k p 3 (by omega) (by omega) (by omega)
  obtain ⟨x2, y2, p2, e4, i3, i4, _, _⟩ := span_eq hs k (p + 1) (by omega) (by omega) (by omega)
  obtain ⟨v5, e5, _, _⟩ := pick_eq hs k (p + 1) 50 (by omega) (by omega) (by omega)
  obtain ⟨v6, e6, _, _⟩ := pick_eq hs k (p + 1 + 1) 50 (by omega) (by omega) (by omega)
  rw [e]; simp only [Option.bind_some]
  rw [e2]; simp only [Option.bind_some]
  rw [e3]; simp only [Option.bind_some]
  split
  · rw [e4]; simp only [Option.bind_some]
    exact ⟨_, _, _, _, rfl, i1, i2, i3, i4⟩
  · rw [e5]; simp only [Option.bind_some]
    rw [e6]; simp only [Option.bind_some]
    exact ⟨_, _, _, _, rfl, i1, i2, wrap_i64 _, wrap_i64 _⟩
end FnSpanMeet
open FnSpanMeet
theorem FnSpanMeet : laws_FnSpanMeet.Pure := by
  refine ⟨fun a0_0 a0_1 a1_0 a1_1 r1 r2 h1 h2 => Option.some.inj (h2.symm.trans ((impl_SpanMeet_eq a0_0 a0_1 a1_0 a1_1).trans ((spec_SpanMeet_eq a0_0 a0_1 a1_0 a1_1).symm.trans h1))), ?_⟩
  intro l0 l1 m0 y0 w0 m1 y1 w1
  refine ⟨2000000102, ?_⟩
  unfold laws_FnSpanMeet.f
  have main : ∀ (k : Nat) (t : Bool), 2000000102 ≤ k → laws_FnSpanMeet.j0 k l0 l1 t = some true := by
    intro k t hk
    obtain ⟨k, rfl⟩ : ∃ j, k = j + 2 := ⟨k - 2, by omega⟩
    cases t with
    | true => simp only [laws_FnSpanMeet.j0, if_true]
    | false =>
      obtain ⟨x, y, a, b, e, i1, i2, i3, i4⟩ := drawSpanMeet_eq (k + 1) (by omega) l0 w0
      obtain ⟨c, d, e2, i5, i6⟩ := drawSpanOf_eq (k + 1) (by omega) l1 w1
      simp only [laws_FnSpanMeet.j0, e, e2, spec_SpanMeet_eq, impl_SpanMeet_eq, spec_SpanOk_eq, Bool.false_eq_true, if_false, if_true, eq_self, Option.bind_some, bne_self_eq_false, beq_self_eq_true, Bool.not_true, Bool.not_false, Bool.or_self, Bool.and_self]
      rcases hv : spanMeet x y a b with ⟨p, q, o⟩
      cases c1 : okb x y with
      | false => simp [laws_FnSpanMeet.j1]
      | true =>
        cases c2 : okb a b with
        | false => simp [laws_FnSpanMeet.j1]
        | true =>
          simp only [laws_FnSpanMeet.j1, impl_SpanHas_eq, impl_SpanWithin_eq, Bool.false_eq_true, if_false, if_true, eq_self, Option.bind_some, bne_self_eq_false, beq_self_eq_true, Bool.not_true, Bool.not_false, Bool.or_self, Bool.and_self]
          cases o with
          | true =>
            obtain ⟨_, _, hp, hq, c3⟩ := spanMeet_in hv
            have m1 := mx_in x a
            have m2 := mn_in y b
            have w1 : spanWithin p q x y = true := within_true.mpr ⟨c3, c1, by omega, by omega⟩
            have w2 : spanWithin p q a b = true := within_true.mpr ⟨c3, c2, by omega, by omega⟩
            have hh := meet_has (a := c) (b := d) hv
            simp only [hh, w1, w2, Bool.false_eq_true, if_false, if_true, eq_self, Option.bind_some, bne_self_eq_false, beq_self_eq_true, Bool.not_true, Bool.not_false, Bool.or_self, Bool.and_self]
            cases spanHas x y c d <;> cases spanHas a b c d <;> simp
          | false =>
            have hh := meet_none (a := c) (b := d) c1 c2 hv
            simp only [Bool.false_eq_true, if_false, if_true, eq_self, Option.bind_some, bne_self_eq_false, beq_self_eq_true, Bool.not_true, Bool.not_false, Bool.or_self, Bool.and_self]
            revert hh
            cases spanHas x y c d <;> cases spanHas a b c d <;> simp
  split
  · exact main _ _ (by omega)
  · exact main _ _ (by omega)
end Go.Proofs.Ytbdlfopkdplgcaa.Pure
