/- Of parts of spans products, and sums, are parts, as the law of the program's SpanMul and SpanAdd says it. No condition. -/
import Derived.Test.YtbdlfopkdplgcaaQFnSpanMulInx4
import Derived.Test.YtbdlfopkdplgcaaModel
namespace Go.Proofs.Ytbdlfopkdplgcaa.Pure
open Go.RowKit Go.Proofs.Ytbdlfopkdplgcaa.PFnSpanMulIn Go.Proofs.YtbdlfopkdplgcaaW.PrintWords Go.Proofs.YtbdlfopkdplgcaaW.PrintLast Go.Proofs.Ytbdlfopkdplgcaa.Math
set_option linter.unusedVariables false
set_option linter.unusedSimpArgs false
namespace FnSpanMulIn
theorem l6In_eq (a l h : Int) : spec_l6In.f a l h = some (decide (l ≤ a ∧ a ≤ h)) := by
  unfold spec_l6In.f
  by_cases c : a ≥ l
  · rw [if_pos c]; congr 1; rw [decide_eq_decide]; omega
  · rw [if_neg c]; congr 1; symm; rw [decide_eq_false_iff_not]; omega
theorem in_eq (a l h : Int) : impl_in.f a l h = some (decide (l ≤ a ∧ a ≤ h)) := by
  unfold impl_in.f
  by_cases c : l ≤ a
  · rw [if_pos c]; congr 1; rw [decide_eq_decide]; omega
  · rw [if_neg c]; congr 1; symm; rw [decide_eq_false_iff_not]; omega
theorem l1Down_eq {a b : Int} (h0 : -2305843009213693952 ≤ a) (h1 : a ≤ 2305843009213693952) (hb : 1 ≤ b) (hb2 : b ≤ 2305843009213693952) : spec_l1Down.f a b = some (a / b) := by
  unfold spec_l1Down.f
  by_cases c : a ≥ 0
  · rw [if_pos c, if_neg (by omega), tdiv_pos c]
    have := (dn_abs (a := a) (show 0 < b by omega)).1 c
    rw [wrap_id (by omega) (by omega)]
  · rw [if_neg c, if_neg (by omega), wrap_id (x := -a) (by omega) (by omega), wrap_id (x := -a + b) (by omega) (by omega), wrap_id (x := -a + b - 1) (by omega) (by omega), tdiv_pos (by omega)]
    have h2 := (dn_abs (a := -a + b - 1) (show 0 < b by omega)).1 (by omega)
    rw [wrap_id (x := (-a + b - 1) / b) (by omega) (by omega), wrap_id (x := -((-a + b - 1) / b)) (by omega) (by omega), ceil_val (by omega)]
theorem l1Up_eq {a b : Int} (h0 : -2305843009213693952 ≤ a) (h1 : a ≤ 2305843009213693952) (hb : 1 ≤ b) (hb2 : b ≤ 2305843009213693952) : spec_l1Up.f a b = some (up a b) := by
  unfold spec_l1Up.f
  have h2 := dn_abs (a := -a) (show 0 < b by omega)
  rw [wrap_id (x := -a) (by omega) (by omega), l1Down_eq (by omega) (by omega) hb hb2]
  simp only [Option.bind_some]
  rw [wrap_id (x := -(-a / b)) (by omega) (by omega)]
  rfl
theorem down_eq {a b : Int} (h0 : -2305843009213693952 ≤ a) (h1 : a ≤ 2305843009213693952) (hb : 1 ≤ b) : impl_down.f a b = some (a / b) := by
  unfold impl_down.f
  have h2 := tdiv_bd (a := a) (b := b) (m := 2305843009213693952) (by omega) h0 h1
  have h3 := down_val (a := a) (b := b) (by omega)
  rw [if_neg (by omega), wrap_id (x := Int.tdiv a b) (by omega) (by omega), wrap_id (x := Int.tdiv a b - 1) (by omega) (by omega)]
  by_cases c : Int.tmod a b < 0
  · rw [if_pos c] at h3 ⊢; rw [h3]
  · rw [if_neg c] at h3 ⊢; rw [h3]
theorem up_fn {a b : Int} (h0 : -2305843009213693952 ≤ a) (h1 : a ≤ 2305843009213693952) (hb : 1 ≤ b) : impl_up.f a b = some (up a b) := by
  unfold impl_up.f
  have h2 := dn_abs (a := -a) (show 0 < b by omega)
  rw [wrap_id (x := -a) (by omega) (by omega), down_eq (by omega) (by omega) hb]
  simp only [Option.bind_some]
  rw [wrap_id (x := -(-a / b)) (by omega) (by omega)]
  rfl
theorem spec_SpanOk_eq (a b : Int) : spec_SpanOk.f a b = some (okb a b) := by
  unfold spec_SpanOk.f okb
  simp only [l6In_eq, Option.bind_some]
  by_cases c : -1073000000 ≤ a ∧ a ≤ 1073000000
  · rw [decide_eq_true c, if_pos rfl]; congr 1; rw [decide_eq_decide]; omega
  · rw [decide_eq_false c, if_neg (by decide)]; congr 1; symm; rw [decide_eq_false_iff_not]; omega
theorem impl_SpanOk_eq (a b : Int) : impl_SpanOk.f a b = some (okb a b) := by
  unfold impl_SpanOk.f okb
  simp only [in_eq, Option.bind_some]
  by_cases c : -1073000000 ≤ a ∧ a ≤ 1073000000
  · rw [decide_eq_true c, if_pos rfl]
    by_cases c2 : -1073000000 ≤ b ∧ b ≤ 1073000000
    · rw [decide_eq_true c2, if_pos rfl]; congr 1; rw [decide_eq_decide]; omega
    · rw [decide_eq_false c2, if_neg (by decide)]; congr 1; symm; rw [decide_eq_false_iff_not]; omega
  · rw [decide_eq_false c, if_neg (by decide)]; congr 1; symm; rw [decide_eq_false_iff_not]; omega
theorem l2Fit_eq (a b : Int) : spec_l2Fit.f a b = some (told a b) := by
  unfold spec_l2Fit.f told
  rw [spec_SpanOk_eq]
  simp only [Option.bind_some]
  split <;> rfl
theorem told_eq (a b : Int) : impl_told.f a b = some (told a b) := by
  unfold impl_told.f told
  rw [impl_SpanOk_eq]
  simp only [Option.bind_some]
  split <;> rfl
theorem impl_SpanWithin_eq (l h l' h' : Int) : impl_SpanWithin.f l h l' h' = some (spanWithin l h l' h') := by
  unfold impl_SpanWithin.f spanWithin
  simp only [impl_SpanOk_eq, Option.bind_some]
  cases c1 : okb l h <;> cases c2 : okb l' h' <;> by_cases c3 : l' ≤ l <;> simp [c3]
def Bytes (s : List Int) : Prop := s.length ≤ 2000 ∧ ∀ x ∈ s, 0 ≤ x ∧ x ≤ 255
theorem bytes_rd {s : List Int} (h : Bytes s) (i : Int) : 0 ≤ rd s i ∧ rd s i ≤ 255 := by
  unfold rd
  by_cases c : i.toNat < s.length
  · rw [List.getD_eq_getElem?_getD, List.getElem?_eq_getElem c, Option.getD_some]
    exact h.2 _ (List.getElem_mem c)
  · rw [List.getD_eq_getElem?_getD, List.getElem?_eq_none (by omega), Option.getD_none]; omega
theorem l6Open_eq (l : List Int) (h : ∀ x ∈ l, (Lit.int .u8 x).wf = true) : ∃ s, spec_l6Open.f l = some (s, 0) ∧ Bytes s := by
  have hb : ∀ x ∈ l, 0 ≤ x ∧ x ≤ 255 := by
    intro x hx
    have := h x hx
    simp [Lit.wf, IntKind.bits, IntKind.signed, IntKind.min, IntKind.max] at this
    omega
  unfold spec_l6Open.f
  by_cases c : (l.length : Int) > 2000
  · rw [if_pos c, if_pos (by omega)]
    exact ⟨_, rfl, by rw [List.length_take]; omega, fun x hx => hb x (List.mem_of_mem_take hx)⟩
  · rw [if_neg c]
    exact ⟨_, rfl, by omega, hb⟩
theorem pick_eq {s : List Int} (hs : Bytes s) (k : Nat) (p n : Int) (hk : 1 ≤ k) (h0 : 0 ≤ p) (h1 : p ≤ 10000) :
    ∃ v, spec_l6Rd_pick.f k s p n = some (v, p + 1) ∧ 0 ≤ v ∧ (1 ≤ n → v < n) := by
  obtain ⟨k, rfl⟩ : ∃ m, k = m + 1 := ⟨k - 1, by omega⟩
  unfold spec_l6Rd_pick.f
  rw [wrap_id (x := p + 1) (by omega) (by omega)]
  by_cases c : n < 1
  · rw [if_pos c]; simp only [spec_l6Rd_pick.j0, if_true]
    exact ⟨0, rfl, by omega, by omega⟩
  · rw [if_neg c]
    by_cases c2 : (s.length : Int) = 0
    · rw [show ((s.length : Int) == 0) = true by rw [c2]; rfl]; simp only [spec_l6Rd_pick.j0, if_true]
      exact ⟨0, rfl, by omega, by omega⟩
    · have hl := hs.1
      rw [show ((s.length : Int) == 0) = false from beq_eq_false_iff_ne.mpr c2]; simp only [spec_l6Rd_pick.j0, Bool.false_eq_true, if_false]
      rw [show p + 1 - 1 = p by omega, wrap_id (x := p) (by omega) (by omega)]
      by_cases c3 : p < (s.length : Int)
      · rw [if_pos c3, if_pos h0, if_neg (by omega)]
        have hr := bytes_rd hs p
        rw [wrap_id (x := rd s p) (by omega) (by omega)]
        exact ⟨_, rfl, Int.tmod_nonneg _ hr.1, fun _ => Int.tmod_lt_of_pos _ (by omega)⟩
      · have hd := tdiv_pos (b := (s.length : Int)) h0
        have hd0 : 0 ≤ p / (s.length : Int) := Int.ediv_nonneg h0 (by omega)
        have hd1 : p / (s.length : Int) ≤ p := Int.ediv_le_self _ h0
        rw [if_neg c3, if_neg c2, wrap_id (x := p * 7) (by omega) (by omega), wrap_id (x := p * 7 + 3) (by omega) (by omega), if_pos (Int.tmod_nonneg _ h0), if_pos (Int.tmod_lt_of_pos _ (by omega)),
          if_pos (Int.tmod_nonneg _ (by omega)), if_pos (Int.tmod_lt_of_pos _ (by omega)), if_neg (by omega)]
        have ha := bytes_rd hs (Int.tmod p (s.length : Int))
        have hb := bytes_rd hs (Int.tmod (p * 7 + 3) (s.length : Int))
        rw [hd]
        generalize rd s (Int.tmod p (s.length : Int)) = a at *
        generalize rd s (Int.tmod (p * 7 + 3) (s.length : Int)) = b at *
        generalize p / (s.length : Int) = q at *
        rw [wrap_id (x := a) (by omega) (by omega), wrap_id (x := b) (by omega) (by omega), wrap_id (x := q) (by omega) (by omega), wrap_id (x := a * 131) (by omega) (by omega), wrap_id (x := b * 1117) (by omega) (by omega),
          wrap_id (x := p * 29) (by omega) (by omega), wrap_id (x := q * 53) (by omega) (by omega), wrap_id (x := a * 131 + b * 1117) (by omega) (by omega), wrap_id (x := a * 131 + b * 1117 + p * 29) (by omega) (by omega),
          wrap_id (x := a * 131 + b * 1117 + p * 29 + q * 53) (by omega) (by omega), tdiv_pos (a := a * 131 + b * 1117 + p * 29 + q * 53) (by omega)]
        have hx0 : 0 ≤ a * 131 + b * 1117 + p * 29 + q * 53 ∧ a * 131 + b * 1117 + p * 29 + q * 53 ≤ 100000000000 := by omega
        generalize a * 131 + b * 1117 + p * 29 + q * 53 = x at *
        by_cases hx : 0 ≤ x ∧ x ≤ 100000000000
        · rw [wrap_id (x := x / 64) (by omega) (by omega)]
          have hz := xor_nonneg (x := x) (y := x / 64) (by omega) (by omega) (by omega) (by omega)
          exact ⟨_, rfl, Int.tmod_nonneg _ hz.1, fun _ => Int.tmod_lt_of_pos _ (by omega)⟩
        · exact absurd hx0 hx
theorem big_j1 {s : List Int} (hs : Bytes s) (k : Nat) (m x p : Int) (hk : 2 ≤ k) (hm : 0 ≤ m) (hm2 : m ≤ 9223372036854775807) (hx : I64 x) (h0 : 0 ≤ p) (h1 : p ≤ 9000) :
    ∃ r p', spec_l71Big.j1 k m x s p = some (r, p') ∧ I64 r ∧ p ≤ p' ∧ p' ≤ p + 1 := by
  obtain ⟨k, rfl⟩ : ∃ j, k = j + 1 := ⟨k - 1, by omega⟩
  simp only [spec_l71Big.j1]
  by_cases c : x < 0
  · rw [if_pos c]; exact ⟨_, _, rfl, hx, by omega, by omega⟩
  · have hw : wrap64 (m + 1) ≠ 0 := by unfold wrap64; omega
    rw [if_neg c, if_neg hw]
    obtain ⟨v, e, _, _⟩ := pick_eq hs k p 2 (by omega) h0 (by omega)
    rw [e]
    simp only [Option.bind_some]
    have ht : I64 (Int.tmod x (wrap64 (m + 1))) := by
      have a1 := Int.tmod_nonneg (a := x) (wrap64 (m + 1)) (by omega)
      have a2 : Int.tmod x (wrap64 (m + 1)) ≤ x := by
        have := Int.natAbs_tmod x (wrap64 (m + 1))
        have := Nat.mod_le x.natAbs (wrap64 (m + 1)).natAbs
        omega
      unfold I64 at *; omega
    split
    · exact ⟨_, _, rfl, wrap_i64 _, by omega, by omega⟩
    · exact ⟨_, _, rfl, ht, by omega, by omega⟩
theorem big_l0 {s : List Int} (hs : Bytes s) (m : Int) (hm : 0 ≤ m) (hm2 : m ≤ 9223372036854775807) (d : Nat) : ∀ (k : Nat) (x i p : Int), d + 3 ≤ k → d ≤ 4 → i = 4 - d → I64 x → 0 ≤ p → p + d ≤ 8000 →
    ∃ r p', spec_l71Big.l0 k m x i s p = some (r, p') ∧ I64 r ∧ p ≤ p' ∧ p' ≤ p + d + 1 := by
  induction d with
  | zero =>
    intro k x i p hk hd hi hx h0 h1
    obtain ⟨k, rfl⟩ : ∃ j, k = j + 1 := ⟨k - 1, by omega⟩
    simp only [spec_l71Big.l0]
    rw [if_neg (by omega)]
    obtain ⟨r, p', e, h⟩ := big_j1 hs k m x p (by omega) hm hm2 hx h0 (by omega)
    exact ⟨r, p', e, h.1, by omega, by omega⟩
  | succ d ih =>
    intro k x i p hk hd hi hx h0 h1
    obtain ⟨k, rfl⟩ : ∃ j, k = j + 1 := ⟨k - 1, by omega⟩
    simp only [spec_l71Big.l0]
    rw [if_pos (by omega)]
    obtain ⟨v, e, _, _⟩ := pick_eq hs k p 32768 (by omega) h0 (by omega)
    rw [e]
    simp only [Option.bind_some]
    rw [wrap_id (x := i + 1) (by omega) (by omega)]
    obtain ⟨r, p', e2, h2, h3, h4⟩ := ih k (wrap64 (wrap64 (x * 32768) + v)) (i + 1) (p + 1) (by omega) (by omega) (by omega) (wrap_i64 _) (by omega) (by omega)
    exact ⟨r, p', e2, h2, by omega, by omega⟩
theorem big_eq {s : List Int} (hs : Bytes s) (k : Nat) (p m : Int) (hk : 8 ≤ k) (hm : 0 ≤ m) (hm2 : m ≤ 9223372036854775807) (h0 : 0 ≤ p) (h1 : p ≤ 7000) :
    ∃ r p', spec_l71Big.f k s p m = some (r, p') ∧ I64 r ∧ p ≤ p' ∧ p' ≤ p + 10 := by
  unfold spec_l71Big.f
  obtain ⟨v, e, _, _⟩ := pick_eq hs k p 6 (by omega) h0 (by omega)
  rw [e]
  simp only [Option.bind_some]
  split
  · obtain ⟨v, e, _, _⟩ := pick_eq hs k (p + 1) 7 (by omega) (by omega) (by omega)
    rw [e]
    simp only [Option.bind_some]
    obtain ⟨r, p', e, h⟩ := big_j1 hs k m (wrap64 (v - 3)) (p + 1 + 1) (by omega) hm hm2 (wrap_i64 _) (by omega) (by omega)
    exact ⟨r, p', e, h.1, by omega, by omega⟩
  split
  · obtain ⟨v, e, _, _⟩ := pick_eq hs k (p + 1) 3 (by omega) (by omega) (by omega)
    rw [e]
    simp only [Option.bind_some]
    obtain ⟨r, p', e, h⟩ := big_j1 hs k m (wrap64 (m - v)) (p + 1 + 1) (by omega) hm hm2 (wrap_i64 _) (by omega) (by omega)
    exact ⟨r, p', e, h.1, by omega, by omega⟩
  split
  · obtain ⟨v, e, g0, g1⟩ := pick_eq hs k (p + 1) 1048576 (by omega) (by omega) (by omega)
    rw [e]
    simp only [Option.bind_some]
    have g2 := g1 (by omega)
    obtain ⟨r, p', e, h⟩ := big_j1 hs k m v (p + 1 + 1) (by omega) hm hm2 (by unfold I64; omega) (by omega) (by omega)
    exact ⟨r, p', e, h.1, by omega, by omega⟩
  · obtain ⟨r, p', e, h⟩ := big_l0 hs m hm hm2 4 k 0 0 (p + 1) (by omega) (by omega) (by omega) (by unfold I64; omega) (by omega) (by omega)
    exact ⟨r, p', e, h.1, by omega, by omega⟩
theorem impl_SpanAdd_eq (l h l' h' : Int) : impl_SpanAdd.f l h l' h' = some (spanAdd l h l' h') := by
  unfold impl_SpanAdd.f spanAdd
  simp only [impl_SpanOk_eq, told_eq, Option.bind_some]
  cases c1 : okb l h
  · simp
  · cases c2 : okb l' h'
    · simp
    · have k1 := okb_true.mp c1
      have k2 := okb_true.mp c2
      rw [wrap_id (x := l + l') (by omega) (by omega), wrap_id (x := h + h') (by omega) (by omega)]
      simp
theorem mul_ok {l h l' h' : Int} (c1 : okb l h = true) (c2 : okb l' h' = true) :
    wrap64 (l * l') = l * l' ∧ wrap64 (l * h') = l * h' ∧ wrap64 (h * l') = h * l' ∧ wrap64 (h * h') = h * h' ∧
    (-1151329000000000000 ≤ lo4 (l * l') (l * h') (h * l') (h * h') ∧ lo4 (l * l') (l * h') (h * l') (h * h') ≤ 1151329000000000000) ∧
    (-1151329000000000000 ≤ hi4 (l * l') (l * h') (h * l') (h * h') ∧ hi4 (l * l') (l * h') (h * l') (h * h') ≤ 1151329000000000000) := by
  have k1 := okb_true.mp c1
  have k2 := okb_true.mp c2
  have e1 := mul_bd (x := l) (y := l') (m := 1073000000) (n := 1073000000) (by omega) (by omega) (by omega) (by omega)
  have e2 := mul_bd (x := l) (y := h') (m := 1073000000) (n := 1073000000) (by omega) (by omega) (by omega) (by omega)
  have e3 := mul_bd (x := h) (y := l') (m := 1073000000) (n := 1073000000) (by omega) (by omega) (by omega) (by omega)
  have e4 := mul_bd (x := h) (y := h') (m := 1073000000) (n := 1073000000) (by omega) (by omega) (by omega) (by omega)
  have g1 := lo4_in (l * l') (l * h') (h * l') (h * h')
  have g2 := hi4_in (l * l') (l * h') (h * l') (h * h')
  refine ⟨wrap_id (by omega) (by omega), wrap_id (by omega) (by omega), wrap_id (by omega) (by omega), wrap_id (by omega) (by omega), ⟨by omega, by omega⟩, by omega, by omega⟩
theorem spec_SpanMul_eq (k : Nat) (hk : 1 ≤ k) (l h l' h' : Int) : spec_SpanMul.f k l h l' h' = some (spanMul l h l' h') := by
  obtain ⟨k, rfl⟩ : ∃ j, k = j + 1 := ⟨k - 1, by omega⟩
  unfold spec_SpanMul.f spanMul
  simp only [spec_SpanOk_eq, Option.bind_some, spec_SpanMul.j0]
  cases c1 : okb l h
  · simp
  · cases c2 : okb l' h'
    · simp
    · obtain ⟨w1, w2, w3, w4, b1, b2⟩ := mul_ok c1 c2
      rw [w1, w2, w3, w4]
      unfold spec_l2Four.f
      simp only [Option.bind_some, lo4_fold, hi4_fold]
      rw [l1Down_eq (by omega) (by omega) (by omega) (by omega), l1Up_eq (by omega) (by omega) (by omega) (by omega)]
      simp only [Option.bind_some, l2Fit_eq]
      simp
theorem mul_ok2 {l h l' h' : Int} (c1 : okb l h = true) (c2 : okb l' h' = true) :
    wrap64 (l * l') = l * l' ∧ wrap64 (l * h') = l * h' ∧ wrap64 (h * l') = h * l' ∧ wrap64 (h * h') = h * h' ∧
    (-1151329000000000000 ≤ lo4 (l * l') (l * h') (h * l') (h * h') ∧ lo4 (l * l') (l * h') (h * l') (h * h') ≤ 1151329000000000000) ∧
    (-1151329000000000000 ≤ hi4 (l * l') (l * h') (h * l') (h * h') ∧ hi4 (l * l') (l * h') (h * l') (h * h') ≤ 1151329000000000000) := by
  have k1 := okb_true.mp c1
  have k2 := okb_true.mp c2
  have e1 := mul_bd (x := l) (y := l') (m := 1073000000) (n := 1073000000) (by omega) (by omega) (by omega) (by omega)
  have e2 := mul_bd (x := l) (y := h') (m := 1073000000) (n := 1073000000) (by omega) (by omega) (by omega) (by omega)
  have e3 := mul_bd (x := h) (y := l') (m := 1073000000) (n := 1073000000) (by omega) (by omega) (by omega) (by omega)
  have e4 := mul_bd (x := h) (y := h') (m := 1073000000) (n := 1073000000) (by omega) (by omega) (by omega) (by omega)
  have g1 := lo4_in (l * l') (l * h') (h * l') (h * h')
  have g2 := hi4_in (l * l') (l * h') (h * l') (h * h')
  refine ⟨wrap_id (by omega) (by omega), wrap_id (by omega) (by omega), wrap_id (by omega) (by omega), wrap_id (by omega) (by omega), ⟨by omega, by omega⟩, by omega, by omega⟩
theorem impl_SpanMul_eq (k : Nat) (hk : 1 ≤ k) (l h l' h' : Int) : impl_SpanMul.f k l h l' h' = some (spanMul l h l' h') := by
  obtain ⟨k, rfl⟩ : ∃ j, k = j + 1 := ⟨k - 1, by omega⟩
  unfold impl_SpanMul.f spanMul
  simp only [impl_SpanOk_eq, Option.bind_some, impl_SpanMul.j0]
  cases c1 : okb l h
  · simp
  · cases c2 : okb l' h'
    · simp
    · obtain ⟨w1, w2, w3, w4, b1, b2⟩ := mul_ok2 c1 c2
      rw [w1, w2, w3, w4, lo4_chain, hi4_chain, down_eq (by omega) (by omega) (by omega), up_fn (by omega) (by omega) (by omega)]
      simp only [Option.bind_some, told_eq]
      simp
theorem mn_i64 {a b : Int} (h0 : I64 a) (h1 : I64 b) : I64 (mn a b) := by unfold I64 mn at *; omega
theorem mx_i64 {a b : Int} (h0 : I64 a) (h1 : I64 b) : I64 (mx a b) := by unfold I64 mx at *; omega
theorem span_j0 {s : List Int} (hs : Bytes s) (k : Nat) (x y p : Int) (hk : 2 ≤ k) (hx : I64 x) (hy : I64 y) (h0 : 0 ≤ p) (h1 : p ≤ 6000) :
    ∃ l h p', spec_l71Span.j0 k x y s p = some (l, h, p') ∧ I64 l ∧ I64 h ∧ p ≤ p' ∧ p' ≤ p + 2 := by
  obtain ⟨k, rfl⟩ : ∃ j, k = j + 1 := ⟨k - 1, by omega⟩
  simp only [spec_l71Span.j0]
  have gl := mn_i64 hx hy
  have gh := mx_i64 hx hy
  obtain ⟨v, e, _, _⟩ := pick_eq hs k p 24 (by omega) h0 (by omega)
  obtain ⟨v2, e2, _, _⟩ := pick_eq hs k (p + 1) 2 (by omega) (by omega) (by omega)
  have i1 : I64 1073000000 := by unfold I64; omega
  have i2 : I64 1073000001 := by unfold I64; omega
  rw [e]
  simp only [Option.bind_some, e2, if_true]
  repeat' split
  all_goals first | exact ⟨_, _, _, rfl, gl, i1, by omega, by omega⟩ | exact ⟨_, _, _, rfl, gl, i2, by omega, by omega⟩ | exact ⟨_, _, _, rfl, gl, wrap_i64 _, by omega, by omega⟩ | exact ⟨_, _, _, rfl, gl, gh, by omega, by omega⟩
theorem span_eq {s : List Int} (hs : Bytes s) (k : Nat) (p : Int) (hk : 8 ≤ k) (h0 : 0 ≤ p) (h1 : p ≤ 5000) :
    ∃ l h p', spec_l71Span.f k s p = some (l, h, p') ∧ I64 l ∧ I64 h ∧ p ≤ p' ∧ p' ≤ p + 30 := by
  unfold spec_l71Span.f
  obtain ⟨a, p1, e1, i1, q1, q1'⟩ := big_eq hs k p 1073000000 hk (by omega) (by omega) h0 (by omega)
  obtain ⟨b, p2, e2, i2, q2, q2'⟩ := big_eq hs k p1 1073000000 hk (by omega) (by omega) (by omega) (by omega)
  obtain ⟨v, e3, _, _⟩ := pick_eq hs k p2 5 (by omega) (by omega) (by omega)
  obtain ⟨v2, e4, _, _⟩ := pick_eq hs k (p2 + 1) 100 (by omega) (by omega) (by omega)
  rw [e1]; simp only [Option.bind_some]
  rw [e2]; simp only [Option.bind_some]
  rw [e3]; simp only [Option.bind_some, e4]
  split
  · obtain ⟨l, h, p', e, g1, g2, g3, g4⟩ := span_j0 hs k a a (p2 + 1) (by omega) i1 i1 (by omega) (by omega)
    exact ⟨l, h, p', e, g1, g2, by omega, by omega⟩
  split
  · obtain ⟨l, h, p', e, g1, g2, g3, g4⟩ := span_j0 hs k a (wrap64 (a + v2)) (p2 + 1 + 1) (by omega) i1 (wrap_i64 _) (by omega) (by omega)
    exact ⟨l, h, p', e, g1, g2, by omega, by omega⟩
  split
  · obtain ⟨l, h, p', e, g1, g2, g3, g4⟩ := span_j0 hs k a (wrap64 (a + v2)) (p2 + 1 + 1) (by omega) i1 (wrap_i64 _) (by omega) (by omega)
    exact ⟨l, h, p', e, g1, g2, by omega, by omega⟩
  · obtain ⟨l, h, p', e, g1, g2, g3, g4⟩ := span_j0 hs k a b (p2 + 1) (by omega) i1 i2 (by omega) (by omega)
    exact ⟨l, h, p', e, g1, g2, by omega, by omega⟩
theorem mild_eq {s : List Int} (hs : Bytes s) (k : Nat) (p : Int) (hk : 8 ≤ k) (h0 : 0 ≤ p) (h1 : p ≤ 5000) :
    ∃ l h p', spec_l71Mild.f k s p = some (l, h, p') ∧ I64 l ∧ I64 h ∧ p ≤ p' ∧ p' ≤ p + 30 := by
  unfold spec_l71Mild.f
  obtain ⟨a, p1, e1, i1, q1, q1'⟩ := big_eq hs k p 357666666 hk (by omega) (by omega) h0 (by omega)
  obtain ⟨v, e2, _, _⟩ := pick_eq hs k p1 3 (by omega) (by omega) (by omega)
  obtain ⟨v2, e3, _, _⟩ := pick_eq hs k (p1 + 1) (wrap64 (1 + (wrap64 (v * 1000)))) (by omega) (by omega) (by omega)
  rw [e1]; simp only [Option.bind_some]
  rw [e2]; simp only [Option.bind_some]
  rw [e3]; simp only [Option.bind_some]
  exact ⟨_, _, _, rfl, i1, wrap_i64 _, by omega, by omega⟩
theorem two_eq {s : List Int} (hs : Bytes s) (k : Nat) (p : Int) (hk : 8 ≤ k) (h0 : 0 ≤ p) (h1 : p ≤ 4000) :
    ∃ l h l' h' p', spec_l71Two.f k s p = some (l, h, l', h', p') ∧ I64 l ∧ I64 h ∧ I64 l' ∧ I64 h' ∧ p ≤ p' ∧ p' ≤ p + 70 := by
  unfold spec_l71Two.f
  obtain ⟨v, e, _, _⟩ := pick_eq hs k p 4 (by omega) (by omega) (by omega)
  rw [e]; simp only [Option.bind_some]
  split
  · obtain ⟨a, b, p1, e1, i1, i2, q1, q1'⟩ := span_eq hs k (p + 1) hk (by omega) (by omega)
    obtain ⟨c, d, p2, e2, i3, i4, q2, q2'⟩ := span_eq hs k p1 hk (by omega) (by omega)
    rw [e1]; simp only [Option.bind_some]
    rw [e2]; simp only [Option.bind_some]
    exact ⟨_, _, _, _, _, rfl, i1, i2, i3, i4, by omega, by omega⟩
  · obtain ⟨a, b, p1, e1, i1, i2, q1, q1'⟩ := mild_eq hs k (p + 1) hk (by omega) (by omega)
    obtain ⟨c, d, p2, e2, i3, i4, q2, q2'⟩ := mild_eq hs k p1 hk (by omega) (by omega)
    rw [e1]; simp only [Option.bind_some]
    rw [e2]; simp only [Option.bind_some]
    exact ⟨_, _, _, _, _, rfl, i1, i2, i3, i4, by omega, by omega⟩
theorem drawSpanMul_eq (k : Nat) (hk : 9 ≤ k) (l : List Int) (h : ∀ x ∈ l, (Lit.int .u8 x).wf = true) : ∃ x y a b, spec_DrawSpanMul.f k l = some (x, y, a, b) ∧ I64 x ∧ I64 y ∧ I64 a ∧ I64 b := by
  unfold spec_DrawSpanMul.f
  obtain ⟨s, e, hs⟩ := l6Open_eq l h
  obtain ⟨x, y, a, b, p, e2, i1, i2, i3, i4, _, _⟩ := two_eq hs k 0 (by omega) (by omega) (by omega)
  rw [e]; simp only [Option.bind_some]
  rw [e2]; simp only [Option.bind_some]
  exact ⟨_, _, _, _, rfl, i1, i2, i3, i4⟩
theorem lgPick_eq {l h : Int} (c : okb l h = true) (m : List Int) : ∃ n, laws_lgPick.f l h m = some n ∧ l ≤ n ∧ n ≤ h := by
  unfold laws_lgPick.f
  have k := okb_true.mp c
  have h1 := Int.emod_nonneg (m.length : Int) (show h - l + 1 ≠ 0 by omega)
  have h2 := Int.emod_lt_of_pos (m.length : Int) (show 0 < h - l + 1 by omega)
  rw [wrap_id (x := h - l) (by omega) (by omega), wrap_id (x := h - l + 1) (by omega) (by omega), if_neg (by omega), wrap_id (x := l + (m.length : Int) % (h - l + 1)) (by omega) (by omega)]
  exact ⟨_, rfl, by omega, by omega⟩
end FnSpanMulIn
open FnSpanMulIn
theorem FnSpanMulIn : laws_FnSpanMulIn.Pure := by
  refine ⟨fun k a0_0 a0_1 a1_0 a1_1 r1 r2 h1 h2 => Option.some.inj ((more (fun k => impl_SpanMul.mono a0_0 a0_1 a1_0 a1_1 k) h2 2000000002).symm.trans ((impl_SpanMul_eq (k + 2000000002) (by omega) a0_0 a0_1 a1_0 a1_1).trans ((spec_SpanMul_eq (k + 2000000002) (by omega) a0_0 a0_1 a1_0 a1_1).symm.trans (more (fun k => spec_SpanMul.mono a0_0 a0_1 a1_0 a1_1 k) h1 2000000002)))), ?_⟩
  intro l0 l1 m0 y0 w0 m1 y1 w1
  refine ⟨2000000102, ?_⟩
  unfold laws_FnSpanMulIn.f
  have main : ∀ (k : Nat) (t : Bool), 2000000102 ≤ k → laws_FnSpanMulIn.j0 k l0 l1 t = some true := by
    intro k t hk
    obtain ⟨k, rfl⟩ : ∃ j, k = j + 2 := ⟨k - 2, by omega⟩
    cases t with
    | true => simp only [laws_FnSpanMulIn.j0, if_true]
    | false =>
      obtain ⟨x, y, a, b, e, i1, i2, i3, i4⟩ := drawSpanMul_eq (k + 1) (by omega) l0 w0
      have hsp := spec_SpanMul_eq (k + 1) (by omega)
      have him := impl_SpanMul_eq (k + 1) (by omega)
      simp only [laws_FnSpanMulIn.j0, e, hsp, him, Bool.false_eq_true, if_false, if_true, eq_self, Option.bind_some, bne_self_eq_false, beq_self_eq_true, Bool.not_true, Bool.not_false, Bool.or_self, Bool.and_self]
      rcases hv : spanMul x y a b with ⟨p, q, o⟩
      cases o with
      | false => simp [laws_FnSpanMulIn.j1]
      | true =>
        have him := impl_SpanMul_eq k (by omega)
        obtain ⟨c1, c2, _, _, c3⟩ := spanMul_in hv
        obtain ⟨n1, e1, g1, g2⟩ := lgPick_eq c1 l1
        obtain ⟨u, v, hm, c4, f1, f2⟩ := mul_part hv g1 g2
        have w1 : spanWithin u v p q = true := within_true.mpr ⟨c4, c3, f1, f2⟩
        simp only [laws_FnSpanMulIn.j1, e1, him, hm, impl_SpanAdd_eq, impl_SpanWithin_eq, w1, Bool.false_eq_true, if_false, if_true, eq_self, Option.bind_some, bne_self_eq_false, beq_self_eq_true, Bool.not_true, Bool.not_false, Bool.or_self, Bool.and_self]
        rcases ha : spanAdd x y a b with ⟨r, s, o⟩
        cases o with
        | false => simp
        | true =>
          obtain ⟨r2, s2, ha2, c5, f3, f4⟩ := add_part ha g1 g2
          have w2 : spanWithin r2 s2 r s = true := within_true.mpr ⟨c5, (spanAdd_in ha).2.2.2.2, f3, f4⟩
          simp only [ha2, w2, Bool.false_eq_true, if_false, if_true, eq_self, Option.bind_some, bne_self_eq_false, beq_self_eq_true, Bool.not_true, Bool.not_false, Bool.or_self, Bool.and_self]
  split
  · exact main _ _ (by omega)
  · exact main _ _ (by omega)
end Go.Proofs.Ytbdlfopkdplgcaa.Pure
