/- Nothing is divided by what may be 0, and turned about it is turned about, as the law of the program's SpanDiv says it. No condition. -/
import Derived.Test.YtjhlkdmhlgghbaaQFnSpanDivNonex8
import Derived.Test.YtjhlkdmhlgghbaaModel
namespace Go.Proofs.Ytjhlkdmhlgghbaa.Pure
open Go.RowKit Go.Proofs.Ytjhlkdmhlgghbaa.PFnSpanDivNone Go.Proofs.YtjhlkdmhlgghbaaW.PrintWords Go.Proofs.YtjhlkdmhlgghbaaW.PrintLast Go.Proofs.Ytjhlkdmhlgghbaa.Math
set_option linter.unusedVariables false
set_option linter.unusedSimpArgs false
namespace FnSpanDivNone
theorem l6In_eq (a l h : Int) : spec_l6In.f a l h = some (decide (l ≤ a ∧ a ≤ h)) := by
  unfold spec_l6In.f
  by_cases c : a ≥ l
  · rw [if_pos c]; congr 1; rw [decide_eq_decide]; omega
  · rw [if_neg c]; congr 1; symm; rw [decide_eq_false_iff_not]; omega
theorem in_eq (a l h : Int) : impl_in.f a l h = some (decide (l ≤ a ∧ a ≤ h)) := by
  unfold impl_in.f
  by_cases c : l ≤ a
  · rw [if_pos c]; congr 1; rw [decide_eq_decide]; omega
  · rw [if_neg c]; congr 1; symm; rw [decide_eq_false_iff_not]; omega
theorem l1Down_eq {a b : Int} (h0 : -2305843009213693952 ≤ a) (h1 : a ≤ 2305843009213693952) (hb : 1 ≤ b) (hb2 : b ≤ 2305843009213693952) : spec_l1Down.f a b = some (a / b) := by
  unfold spec_l1Down.f
  by_cases c : a ≥ 0
  · rw [if_pos c, if_neg (by omega), tdiv_pos c]
    have := (dn_abs (a := a) (show 0 < b by omega)).1 c
    rw [wrap_id (by omega) (by omega)]
  · rw [if_neg c, if_neg (by omega), wrap_id (x := -a) (by omega) (by omega), wrap_id (x := -a + b) (by omega) (by omega), wrap_id (x := -a + b - 1) (by omega) (by omega), tdiv_pos (by omega)]
    have h2 := (dn_abs (a := -a + b - 1) (show 0 < b by omega)).1 (by omega)
    rw [wrap_id (x := (-a + b - 1) / b) (by omega) (by omega), wrap_id (x := -((-a + b - 1) / b)) (by omega) (by omega), ceil_val (by omega)]
theorem l1Up_eq {a b : Int} (h0 : -2305843009213693952 ≤ a) (h1 : a ≤ 2305843009213693952) (hb : 1 ≤ b) (hb2 : b ≤ 2305843009213693952) : spec_l1Up.f a b = some (up a b) := by
  unfold spec_l1Up.f
  have h2 := dn_abs (a := -a) (show 0 < b by omega)
  rw [wrap_id (x := -a) (by omega) (by omega), l1Down_eq (by omega) (by omega) hb hb2]
  simp only [Option.bind_some]
  rw [wrap_id (x := -(-a / b)) (by omega) (by omega)]
  rfl
theorem down_eq {a b : Int} (h0 : -2305843009213693952 ≤ a) (h1 : a ≤ 2305843009213693952) (hb : 1 ≤ b) : impl_down.f a b = some (a / b) := by
  unfold impl_down.f
  have h2 := tdiv_bd (a := a) (b := b) (m := 2305843009213693952) (by omega) h0 h1
  have h3 := down_val (a := a) (b := b) (by omega)
  rw [if_neg (by omega), wrap_id (x := Int.tdiv a b) (by omega) (by omega), wrap_id (x := Int.tdiv a b - 1) (by omega) (by omega)]
  by_cases c : Int.tmod a b < 0
  · rw [if_pos c] at h3 ⊢; rw [h3]
  · rw [if_neg c] at h3 ⊢; rw [h3]
theorem up_fn {a b : Int} (h0 : -2305843009213693952 ≤ a) (h1 : a ≤ 2305843009213693952) (hb : 1 ≤ b) : impl_up.f a b = some (up a b) := by
  unfold impl_up.f
  have h2 := dn_abs (a := -a) (show 0 < b by omega)
  rw [wrap_id (x := -a) (by omega) (by omega), down_eq (by omega) (by omega) hb]
  simp only [Option.bind_some]
  rw [wrap_id (x := -(-a / b)) (by omega) (by omega)]
  rfl
theorem spec_SpanOk_eq (a b : Int) : spec_SpanOk.f a b = some (okb a b) := by
  unfold spec_SpanOk.f okb
  simp only [l6In_eq, Option.bind_some]
  by_cases c : -1073000000 ≤ a ∧ a ≤ 1073000000
  · rw [decide_eq_true c, if_pos rfl]; congr 1; rw [decide_eq_decide]; omega
  · rw [decide_eq_false c, if_neg (by decide)]; congr 1; symm; rw [decide_eq_false_iff_not]; omega
theorem impl_SpanOk_eq (a b : Int) : impl_SpanOk.f a b = some (okb a b) := by
  unfold impl_SpanOk.f okb
  simp only [in_eq, Option.bind_some]
  by_cases c : -1073000000 ≤ a ∧ a ≤ 1073000000
  · rw [decide_eq_true c, if_pos rfl]
    by_cases c2 : -1073000000 ≤ b ∧ b ≤ 1073000000
    · rw [decide_eq_true c2, if_pos rfl]; congr 1; rw [decide_eq_decide]; omega
    · rw [decide_eq_false c2, if_neg (by decide)]; congr 1; symm; rw [decide_eq_false_iff_not]; omega
  · rw [decide_eq_false c, if_neg (by decide)]; congr 1; symm; rw [decide_eq_false_iff_not]; omega
theorem l2Fit_eq (a b : Int) : spec_l2Fit.f a b = some (told a b) := by
  unfold spec_l2Fit.f told
  rw [spec_SpanOk_eq]
  simp only [Option.bind_some]
  split <;> rfl
theorem told_eq (a b : Int) : impl_told.f a b = some (told a b) := by
  unfold impl_told.f told
  rw [impl_SpanOk_eq]
  simp only [Option.bind_some]
  split <;> rfl
theorem impl_SpanNeg_eq (l h : Int) : impl_SpanNeg.f l h = some (spanNeg l h) := by
  unfold impl_SpanNeg.f spanNeg
  simp only [impl_SpanOk_eq, Option.bind_some]
  cases c1 : okb l h
  · simp
  · have k1 := okb_true.mp c1
    rw [wrap_id (x := -h) (by omega) (by omega), wrap_id (x := -l) (by omega) (by omega)]
    simp
def Bytes (s : List Int) : Prop := s.length ≤ 2000 ∧ ∀ x ∈ s, 0 ≤ x ∧ x ≤ 255
theorem bytes_rd {s : List Int} (h : Bytes s) (i : Int) : 0 ≤ rd s i ∧ rd s i ≤ 255 := by
  unfold rd
  by_cases c : i.toNat < s.length
  · rw [List.getD_eq_getElem?_getD, List.getElem?_eq_getElem c, Option.getD_some]
    exact h.2 _ (List.getElem_mem c)
  · rw [List.getD_eq_getElem?_getD, List.getElem?_eq_none (by omega), Option.getD_none]; omega
theorem l6Open_eq (l : List Int) (h : ∀ x ∈ l, (Lit.int .u8 x).wf = true) : ∃ s, spec_l6Open.f l = some (s, 0) ∧ Bytes s := by
  have hb : ∀ x ∈ l, 0 ≤ x ∧ x ≤ 255 := by
    intro x hx
    have := h x hx
    simp [Lit.wf, IntKind.bits, IntKind.signed, IntKind.min, IntKind.max] at this
    omega
  unfold spec_l6Open.f
  by_cases c : (l.length : Int) > 2000
  · rw [if_pos c, if_pos (by omega)]
    exact ⟨_, rfl, by rw [List.length_take]; omega, fun x hx => hb x (List.mem_of_mem_take hx)⟩
  · rw [if_neg c]
    exact ⟨_, rfl, by omega, hb⟩
theorem pick_eq {s : List Int} (hs : Bytes s) (k : Nat) (p n : Int) (hk : 1 ≤ k) (h0 : 0 ≤ p) (h1 : p ≤ 10000) :
    ∃ v, spec_l6Rd_pick.f k s p n = some (v, p + 1) ∧ 0 ≤ v ∧ (1 ≤ n → v < n) := by
  obtain ⟨k, rfl⟩ : ∃ m, k = m + 1 := ⟨k - 1, by omega⟩
  unfold spec_l6Rd_pick.f
  rw [wrap_id (x := p + 1) (by omega) (by omega)]
  by_cases c : n < 1
  · rw [if_pos c]; simp only [spec_l6Rd_pick.j0, if_true]
    exact ⟨0, rfl, by omega, by omega⟩
  · rw [if_neg c]
    by_cases c2 : (s.length : Int) = 0
    · rw [show ((s.length : Int) == 0) = true by rw [c2]; rfl]; simp only [spec_l6Rd_pick.j0, if_true]
      exact ⟨0, rfl, by omega, by omega⟩
    · have hl := hs.1
      rw [show ((s.length : Int) == 0) = false from beq_eq_false_iff_ne.mpr c2]; simp only [spec_l6Rd_pick.j0, Bool.false_eq_true, if_false]
      rw [show p + 1 - 1 = p by omega, wrap_id (x := p) (by omega) (by omega)]
      by_cases c3 : p < (s.length : Int)
      · rw [if_pos c3, if_pos h0, if_neg (by omega)]
        have hr := bytes_rd hs p
        rw [wrap_id (x := rd s p) (by omega) (by omega)]
        exact ⟨_, rfl, Int.tmod_nonneg _ hr.1, fun _ => Int.tmod_lt_of_pos _ (by omega)⟩
      · have hd := tdiv_pos (b := (s.length : Int)) h0
        have hd0 : 0 ≤ p / (s.length : Int) := Int.ediv_nonneg h0 (by omega)
        have hd1 : p / (s.length : Int) ≤ p := Int.ediv_le_self _ h0
        rw [if_neg c3, if_neg c2, wrap_id (x := p * 7) (by omega) (by omega), wrap_id (x := p * 7 + 3) (by omega) (by omega), if_pos (Int.tmod_nonneg _ h0), if_pos (Int.tmod_lt_of_pos _ (by omega)),
          if_pos (Int.tmod_nonneg _ (by omega)), if_pos (Int.tmod_lt_of_pos _ (by omega)), if_neg (by omega)]
        have ha := bytes_rd hs (Int.tmod p (s.length : Int))
        have hb := bytes_rd hs (Int.tmod (p * 7 + 3) (s.length : Int))
        rw [hd]
        generalize rd s (Int.tmod p (s.length : Int)) = a at *
        generalize rd s (Int.tmod (p * 7 + 3) (s.length : Int)) = b at *
        generalize p / (s.length : Int) = q at *
        rw [wrap_id (x := a) (by omega) (by omega), wrap_id (x := b) (by omega) (by omega), wrap_id (x := q) (by omega) (by omega), wrap_id (x := a * 131) (by omega) (by omega), wrap_id (x := b * 1117) (by omega) (by omega),
          wrap_id (x := p * 29) (by omega) (by omega), wrap_id (x := q * 53) (by omega) (by omega), wrap_id (x := a * 131 + b * 1117) (by omega) (by omega), wrap_id (x := a * 131 + b * 1117 + p * 29) (by omega) (by omega),
          wrap_id (x := a * 131 + b * 1117 + p * 29 + q * 53) (by omega) (by omega), tdiv_pos (a := a * 131 + b * 1117 + p * 29 + q * 53) (by omega)]
        have hx0 : 0 ≤ a * 131 + b * 1117 + p * 29 + q * 53 ∧ a * 131 + b * 1117 + p * 29 + q * 53 ≤ 100000000000 := by omega
        generalize a * 131 + b * 1117 + p * 29 + q * 53 = x at *
        by_cases hx : 0 ≤ x ∧ x ≤ 100000000000
        · rw [wrap_id (x := x / 64) (by omega) (by omega)]
          have hz := xor_nonneg (x := x) (y := x / 64) (by omega) (by omega) (by omega) (by omega)
          exact ⟨_, rfl, Int.tmod_nonneg _ hz.1, fun _ => Int.tmod_lt_of_pos _ (by omega)⟩
        · exact absurd hx0 hx
theorem big_j1 {s : List Int} (hs : Bytes s) (k : Nat) (m x p : Int) (hk : 2 ≤ k) (hm : 0 ≤ m) (hm2 : m ≤ 9223372036854775807) (hx : I64 x) (h0 : 0 ≤ p) (h1 : p ≤ 9000) :
    ∃ r p', spec_l71Big.j1 k m x s p = some (r, p') ∧ I64 r ∧ p ≤ p' ∧ p' ≤ p + 1 := by
  obtain ⟨k, rfl⟩ : ∃ j, k = j + 1 := ⟨k - 1, by omega⟩
  simp only [spec_l71Big.j1]
  by_cases c : x < 0
  · rw [if_pos c]; exact ⟨_, _, rfl, hx, by omega, by omega⟩
  · have hw : wrap64 (m + 1) ≠ 0 := by unfold wrap64; omega
    rw [if_neg c, if_neg hw]
    obtain ⟨v, e, _, _⟩ := pick_eq hs k p 2 (by omega) h0 (by omega)
    rw [e]
    simp only [Option.bind_some]
    have ht : I64 (Int.tmod x (wrap64 (m + 1))) := by
      have a1 := Int.tmod_nonneg (a := x) (wrap64 (m + 1)) (by omega)
      have a2 : Int.tmod x (wrap64 (m + 1)) ≤ x := by
        have := Int.natAbs_tmod x (wrap64 (m + 1))
        have := Nat.mod_le x.natAbs (wrap64 (m + 1)).natAbs
        omega
      unfold I64 at *; omega
    split
    · exact ⟨_, _, rfl, wrap_i64 _, by omega, by omega⟩
    · exact ⟨_, _, rfl, ht, by omega, by omega⟩
theorem big_l0 {s : List Int} (hs : Bytes s) (m : Int) (hm : 0 ≤ m) (hm2 : m ≤ 9223372036854775807) (d : Nat) : ∀ (k : Nat) (x i p : Int), d + 3 ≤ k → d ≤ 4 → i = 4 - d → I64 x → 0 ≤ p → p + d ≤ 8000 →
    ∃ r p', spec_l71Big.l0 k m x i s p = some (r, p') ∧ I64 r ∧ p ≤ p' ∧ p' ≤ p + d + 1 := by
  induction d with
  | zero =>
    intro k x i p hk hd hi hx h0 h1
    obtain ⟨k, rfl⟩ : ∃ j, k = j + 1 := ⟨k - 1, by omega⟩
    simp only [spec_l71Big.l0]
    rw [if_neg (by omega)]
    obtain ⟨r, p', e, h⟩ := big_j1 hs k m x p (by omega) hm hm2 hx h0 (by omega)
    exact ⟨r, p', e, h.1, by omega, by omega⟩
  | succ d ih =>
    intro k x i p hk hd hi hx h0 h1
    obtain ⟨k, rfl⟩ : ∃ j, k = j + 1 := ⟨k - 1, by omega⟩
    simp only [spec_l71Big.l0]
    rw [if_pos (by omega)]
    obtain ⟨v, e, _, _⟩ := pick_eq hs k p 32768 (by omega) h0 (by omega)
    rw [e]
    simp only [Option.bind_some]
    rw [wrap_id (x := i + 1) (by omega) (by omega)]
    obtain ⟨r, p', e2, h2, h3, h4⟩ := ih k (wrap64 (wrap64 (x * 32768) + v)) (i + 1) (p + 1) (by omega) (by omega) (by omega) (wrap_i64 _) (by omega) (by omega)
    exact ⟨r, p', e2, h2, by omega, by omega⟩
theorem big_eq {s : List Int} (hs : Bytes s) (k : Nat) (p m : Int) (hk : 8 ≤ k) (hm : 0 ≤ m) (hm2 : m ≤ 9223372036854775807) (h0 : 0 ≤ p) (h1 : p ≤ 7000) :
    ∃ r p', spec_l71Big.f k s p m = some (r, p') ∧ I64 r ∧ p ≤ p' ∧ p' ≤ p + 10 := by
  unfold spec_l71Big.f
  obtain ⟨v, e, _, _⟩ := pick_eq hs k p 6 (by omega) h0 (by omega)
  rw [e]
  simp only [Option.bind_some]
  split
  · obtain ⟨v, e, _, _⟩ := pick_eq hs k (p + 1) 7 (by omega) (by omega) (by omega)
    rw [e]
    simp only [Option.bind_some]
    obtain ⟨r, p', e, h⟩ := big_j1 hs k m (wrap64 (v - 3)) (p + 1 + 1) (by omega) hm hm2 (wrap_i64 _) (by omega) (by omega)
    exact ⟨r, p', e, h.1, by omega, by omega⟩
  split
  · obtain ⟨v, e, _, _⟩ := pick_eq hs k (p + 1) 3 (by omega) (by omega) (by omega)
    rw [e]
    simp only [Option.bind_some]
    obtain ⟨r, p', e, h⟩ := big_j1 hs k m (wrap64 (m - v)) (p + 1 + 1) (by omega) hm hm2 (wrap_i64 _) (by omega) (by omega)
    exact ⟨r, p', e, h.1, by omega, by omega⟩
  split
  · obtain ⟨v, e, g0, g1⟩ := pick_eq hs k (p + 1) 1048576 (by omega) (by omega) (by omega)
    rw [e]
    simp only [Option.bind_some]
    have g2 := g1 (by omega)
    obtain ⟨r, p', e, h⟩ := big_j1 hs k m v (p + 1 + 1) (by omega) hm hm2 (by unfold I64; omega) (by omega) (by omega)
    exact ⟨r, p', e, h.1, by omega, by omega⟩
  · obtain ⟨r, p', e, h⟩ := big_l0 hs m hm hm2 4 k 0 0 (p + 1) (by omega) (by omega) (by omega) (by unfold I64; omega) (by omega) (by omega)
    exact ⟨r, p', e, h.1, by omega, by omega⟩
theorem over_pos {a b : Int} (h0 : -1073000000 ≤ a) (h1 : a ≤ 1073000000) (hb : 1 ≤ b) (hb2 : b ≤ 1073000000) : spec_l2Over.f a b = some (a * 1000000000 / b, up (a * 1000000000) b) := by
  unfold spec_l2Over.f
  rw [if_neg (by omega), wrap_id (x := a * 1000000000) (by omega) (by omega), l1Down_eq (by omega) (by omega) (by omega) (by omega), l1Up_eq (by omega) (by omega) (by omega) (by omega)]
  rfl
theorem over_neg {a b : Int} (h0 : -1073000000 ≤ a) (h1 : a ≤ 1073000000) (hb : b < 0) (hb2 : -1073000000 ≤ b) : spec_l2Over.f a b = some (-a * 1000000000 / -b, up (-a * 1000000000) (-b)) := by
  unfold spec_l2Over.f
  rw [if_pos hb, wrap_id (x := -a) (by omega) (by omega), wrap_id (x := -b) (by omega) (by omega), wrap_id (x := -a * 1000000000) (by omega) (by omega), l1Down_eq (by omega) (by omega) (by omega) (by omega), l1Up_eq (by omega) (by omega) (by omega) (by omega)]
  rfl
theorem lo4_two (a b c d : Int) (h1 : a ≤ c) (h2 : b ≤ d) : lo4 a b c d = mn a b := by unfold lo4 mn; omega
theorem hi4_two (a b c d : Int) (h1 : a ≤ c) (h2 : b ≤ d) : hi4 a b c d = mx c d := by unfold hi4 mx; omega
theorem lo4_two' (a b c d : Int) (h1 : c ≤ a) (h2 : d ≤ b) : lo4 a b c d = mn d c := by unfold lo4 mn; omega
theorem hi4_two' (a b c d : Int) (h1 : c ≤ a) (h2 : d ≤ b) : hi4 a b c d = mx b a := by unfold hi4 mx; omega
theorem spec_SpanDiv_eq (k : Nat) (hk : 1 ≤ k) (l h l' h' : Int) : spec_SpanDiv.f k l h l' h' = some (spanDiv l h l' h') := by
  obtain ⟨k, rfl⟩ : ∃ j, k = j + 1 := ⟨k - 1, by omega⟩
  unfold spec_SpanDiv.f spanDiv
  simp only [spec_SpanOk_eq, Option.bind_some, spec_SpanDiv.j0]
  cases c1 : okb l h
  · simp
  · cases c2 : okb l' h'
    · simp
    · have k1 := okb_true.mp c1
      have k2 := okb_true.mp c2
      by_cases c3 : l' ≤ 0
      · by_cases c4 : 0 ≤ h'
        · simp [c3, c4]
        · have c5 : h' < 0 := by omega
          rw [over_neg (a := l) (b := l') (by omega) (by omega) (by omega) (by omega), over_neg (a := l) (b := h') (by omega) (by omega) (by omega) (by omega),
            over_neg (a := h) (b := l') (by omega) (by omega) (by omega) (by omega), over_neg (a := h) (b := h') (by omega) (by omega) (by omega) (by omega)]
          unfold spec_l2Four.f divPos
          simp only [Option.bind_some, lo4_fold, hi4_fold]
          rw [lo4_two' _ _ _ _ (dn_mono (by omega) (by omega)) (dn_mono (by omega) (by omega)), hi4_two' _ _ _ _ (up_mono (by omega) (by omega)) (up_mono (by omega) (by omega))]
          simp only [Option.bind_some, l2Fit_eq]
          simp [c3, c4, c5]
      · have c5 : ¬ h' < 0 := by omega
        rw [over_pos (a := l) (b := l') (by omega) (by omega) (by omega) (by omega), over_pos (a := l) (b := h') (by omega) (by omega) (by omega) (by omega),
          over_pos (a := h) (b := l') (by omega) (by omega) (by omega) (by omega), over_pos (a := h) (b := h') (by omega) (by omega) (by omega) (by omega)]
        unfold spec_l2Four.f divPos
        simp only [Option.bind_some, lo4_fold, hi4_fold]
        rw [lo4_two _ _ _ _ (dn_mono (by omega) (by omega)) (dn_mono (by omega) (by omega)), hi4_two _ _ _ _ (up_mono (by omega) (by omega)) (up_mono (by omega) (by omega))]
        simp only [Option.bind_some, l2Fit_eq]
        simp [c3, c5]
theorem impl_div_j1 (k : Nat) (hk : 1 ≤ k) (l h l' h' : Int) (h0 : -1073000000 ≤ l) (h1 : l ≤ 1073000000) (h2 : -1073000000 ≤ h) (h3 : h ≤ 1073000000) (g0 : 1 ≤ l') (g1 : 1 ≤ h') :
    impl_SpanDiv.j1 k l h l' h' = some (divPos l h l' h') := by
  obtain ⟨k, rfl⟩ : ∃ j, k = j + 1 := ⟨k - 1, by omega⟩
  simp only [impl_SpanDiv.j1]
  rw [wrap_id (x := l * 1000000000) (by omega) (by omega), wrap_id (x := h * 1000000000) (by omega) (by omega), down_eq (by omega) (by omega) (by omega), down_eq (by omega) (by omega) (by omega),
    up_fn (by omega) (by omega) (by omega), up_fn (by omega) (by omega) (by omega)]
  simp only [Option.bind_some, told_eq]
  rfl
theorem impl_SpanDiv_eq (k : Nat) (hk : 2 ≤ k) (l h l' h' : Int) : impl_SpanDiv.f k l h l' h' = some (spanDiv l h l' h') := by
  obtain ⟨k, rfl⟩ : ∃ j, k = j + 1 := ⟨k - 1, by omega⟩
  unfold impl_SpanDiv.f spanDiv
  simp only [impl_SpanOk_eq, in_eq, Option.bind_some, impl_SpanDiv.j0]
  cases c1 : okb l h
  · simp
  · cases c2 : okb l' h'
    · simp
    · have k1 := okb_true.mp c1
      have k2 := okb_true.mp c2
      by_cases c3 : l' ≤ 0 ∧ 0 ≤ h'
      · simp [c3]
      · by_cases c5 : h' < 0
        · simp only [impl_SpanNeg_eq, Option.bind_some]
          unfold spanNeg
          rw [if_pos c1, if_pos c2, impl_div_j1 k (by omega) _ _ _ _ (by omega) (by omega) (by omega) (by omega) (by omega) (by omega)]
          simp [c3, c5]
        · rw [impl_div_j1 k (by omega) _ _ _ _ (by omega) (by omega) (by omega) (by omega) (by omega) (by omega)]
          simp [c3, c5]
theorem mn_i64 {a b : Int} (h0 : I64 a) (h1 : I64 b) : I64 (mn a b) := by unfold I64 mn at *; omega
theorem mx_i64 {a b : Int} (h0 : I64 a) (h1 : I64 b) : I64 (mx a b) := by unfold I64 mx at *; omega
theorem span_j0 {s : List Int} (hs : Bytes s) (k : Nat) (x y p : Int) (hk : 2 ≤ k) (hx : I64 x) (hy : I64 y) (h0 : 0 ≤ p) (h1 : p ≤ 6000) :
    ∃ l h p', spec_l71Span.j0 k x y s p = some (l, h, p') ∧ I64 l ∧ I64 h ∧ p ≤ p' ∧ p' ≤ p + 2 := by
  obtain ⟨k, rfl⟩ : ∃ j, k = j + 1 := ⟨k - 1, by omega⟩
  simp only [spec_l71Span.j0]
  have gl := mn_i64 hx hy
  have gh := mx_i64 hx hy
  obtain ⟨v, e, _, _⟩ := pick_eq hs k p 24 (by omega) h0 (by omega)
  obtain ⟨v2, e2, _, _⟩ := pick_eq hs k (p + 1) 2 (by omega) (by omega) (by omega)
  have i1 : I64 1073000000 := by unfold I64; omega
  have i2 : I64 1073000001 := by unfold I64; omega
  rw [e]
  simp only [Option.bind_some, e2, if_true]
  repeat' split
  all_goals first | exact ⟨_, _, _, rfl, gl, i1, by omega, by omega⟩ | exact ⟨_, _, _, rfl, gl, i2, by omega, by omega⟩ | exact ⟨_, _, _, rfl, gl, wrap_i64 _, by omega, by omega⟩ | exact ⟨_, _, _, rfl, gl, gh, by omega, by omega⟩
theorem span_eq {s : List Int} (hs : Bytes s) (k : Nat) (p : Int) (hk : 8 ≤ k) (h0 : 0 ≤ p) (h1 : p ≤ 5000) :
    ∃ l h p', spec_l71Span.f k s p = some (l, h, p') ∧ I64 l ∧ I64 h ∧ p ≤ p' ∧ p' ≤ p + 30 := by
  unfold spec_l71Span.f
  obtain ⟨a, p1, e1, i1, q1, q1'⟩ := big_eq hs k p 1073000000 hk (by omega) (by omega) h0 (by omega)
  obtain ⟨b, p2, e2, i2, q2, q2'⟩ := big_eq hs k p1 1073000000 hk (by omega) (by omega) (by omega) (by omega)
  obtain ⟨v, e3, _, _⟩ := pick_eq hs k p2 5 (by omega) (by omega) (by omega)
  obtain ⟨v2, e4, _, _⟩ := pick_eq hs k (p2 + 1) 100 (by omega) (by omega) (by omega)
  rw [e1]; simp only [Option.bind_some]
  rw [e2]; simp only [Option.bind_some]
  rw [e3]; simp only [Option.bind_some, e4]
  split
  · obtain ⟨l, h, p', e, g1, g2, g3, g4⟩ := span_j0 hs k a a (p2 + 1) (by omega) i1 i1 (by omega) (by omega)
    exact ⟨l, h, p', e, g1, g2, by omega, by omega⟩
  split
  · obtain ⟨l, h, p', e, g1, g2, g3, g4⟩ := span_j0 hs k a (wrap64 (a + v2)) (p2 + 1 + 1) (by omega) i1 (wrap_i64 _) (by omega) (by omega)
    exact ⟨l, h, p', e, g1, g2, by omega, by omega⟩
  split
  · obtain ⟨l, h, p', e, g1, g2, g3, g4⟩ := span_j0 hs k a (wrap64 (a + v2)) (p2 + 1 + 1) (by omega) i1 (wrap_i64 _) (by omega) (by omega)
    exact ⟨l, h, p', e, g1, g2, by omega, by omega⟩
  · obtain ⟨l, h, p', e, g1, g2, g3, g4⟩ := span_j0 hs k a b (p2 + 1) (by omega) i1 i2 (by omega) (by omega)
    exact ⟨l, h, p', e, g1, g2, by omega, by omega⟩
theorem mild_eq {s : List Int} (hs : Bytes s) (k : Nat) (p : Int) (hk : 8 ≤ k) (h0 : 0 ≤ p) (h1 : p ≤ 5000) :
    ∃ l h p', spec_l71Mild.f k s p = some (l, h, p') ∧ I64 l ∧ I64 h ∧ p ≤ p' ∧ p' ≤ p + 30 := by
  unfold spec_l71Mild.f
  obtain ⟨a, p1, e1, i1, q1, q1'⟩ := big_eq hs k p 357666666 hk (by omega) (by omega) h0 (by omega)
  obtain ⟨v, e2, _, _⟩ := pick_eq hs k p1 3 (by omega) (by omega) (by omega)
  obtain ⟨v2, e3, _, _⟩ := pick_eq hs k (p1 + 1) (wrap64 (1 + (wrap64 (v * 1000)))) (by omega) (by omega) (by omega)
  rw [e1]; simp only [Option.bind_some]
  rw [e2]; simp only [Option.bind_some]
  rw [e3]; simp only [Option.bind_some]
  exact ⟨_, _, _, rfl, i1, wrap_i64 _, by omega, by omega⟩
theorem two_eq {s : List Int} (hs : Bytes s) (k : Nat) (p : Int) (hk : 8 ≤ k) (h0 : 0 ≤ p) (h1 : p ≤ 4000) :
    ∃ l h l' h' p', spec_l71Two.f k s p = some (l, h, l', h', p') ∧ I64 l ∧ I64 h ∧ I64 l' ∧ I64 h' ∧ p ≤ p' ∧ p' ≤ p + 70 := by
  unfold spec_l71Two.f
  obtain ⟨v, e, _, _⟩ := pick_eq hs k p 4 (by omega) (by omega) (by omega)
  rw [e]; simp only [Option.bind_some]
  split
  · obtain ⟨a, b, p1, e1, i1, i2, q1, q1'⟩ := span_eq hs k (p + 1) hk (by omega) (by omega)
    obtain ⟨c, d, p2, e2, i3, i4, q2, q2'⟩ := span_eq hs k p1 hk (by omega) (by omega)
    rw [e1]; simp only [Option.bind_some]
    rw [e2]; simp only [Option.bind_some]
    exact ⟨_, _, _, _, _, rfl, i1, i2, i3, i4, by omega, by omega⟩
  · obtain ⟨a, b, p1, e1, i1, i2, q1, q1'⟩ := mild_eq hs k (p + 1) hk (by omega) (by omega)
    obtain ⟨c, d, p2, e2, i3, i4, q2, q2'⟩ := mild_eq hs k p1 hk (by omega) (by omega)
    rw [e1]; simp only [Option.bind_some]
    rw [e2]; simp only [Option.bind_some]
    exact ⟨_, _, _, _, _, rfl, i1, i2, i3, i4, by omega, by omega⟩
theorem drawSpanDiv_eq (k : Nat) (hk : 9 ≤ k) (l : List Int) (h : ∀ x ∈ l, (Lit.int .u8 x).wf = true) : ∃ x y a b, spec_DrawSpanDiv.f k l = some (x, y, a, b) ∧ I64 x ∧ I64 y ∧ I64 a ∧ I64 b := by
  unfold spec_DrawSpanDiv.f
  obtain ⟨s, e, hs⟩ := l6Open_eq l h
  obtain ⟨x, y, a, b, p, e2, i1, i2, i3, i4, _, _⟩ := two_eq hs k 0 (by omega) (by omega) (by omega)
  obtain ⟨v, e3, _, _⟩ := pick_eq hs k p 6 (by omega) (by omega) (by omega)
  obtain ⟨v4, e4, _, _⟩ := pick_eq hs k (p + 1) 268435456 (by omega) (by omega) (by omega)
  obtain ⟨v5, e5, _, _⟩ := pick_eq hs k (p + 1 + 1) 1000 (by omega) (by omega) (by omega)
  obtain ⟨v6, e6, _, _⟩ := pick_eq hs k (p + 1 + 1 + 1) 2 (by omega) (by omega) (by omega)
  rw [e]; simp only [Option.bind_some]
  rw [e2]; simp only [Option.bind_some]
  rw [e3]; simp only [Option.bind_some]
  split
  · rw [e4]; simp only [Option.bind_some]
    rw [e5]; simp only [Option.bind_some]
    rw [e6]; simp only [Option.bind_some]
    split
    · exact ⟨_, _, _, _, rfl, i1, i2, wrap_i64 _, wrap_i64 _⟩
    · exact ⟨_, _, _, _, rfl, i1, i2, wrap_i64 _, wrap_i64 _⟩
  · exact ⟨_, _, _, _, rfl, i1, i2, i3, i4⟩
end FnSpanDivNone
open FnSpanDivNone
theorem FnSpanDivNone : laws_FnSpanDivNone.Pure := by
  refine ⟨fun k a0_0 a0_1 a1_0 a1_1 r1 r2 h1 h2 => Option.some.inj ((more (fun k => impl_SpanDiv.mono a0_0 a0_1 a1_0 a1_1 k) h2 2000000002).symm.trans ((impl_SpanDiv_eq (k + 2000000002) (by omega) a0_0 a0_1 a1_0 a1_1).trans ((spec_SpanDiv_eq (k + 2000000002) (by omega) a0_0 a0_1 a1_0 a1_1).symm.trans (more (fun k => spec_SpanDiv.mono a0_0 a0_1 a1_0 a1_1 k) h1 2000000002)))), ?_⟩
  intro l0 m0 y0 w0
  have main : ∀ (k : Nat), 2000000102 ≤ k → laws_FnSpanDivNone.f k l0 = some true := by
    intro k hk
    obtain ⟨k, rfl⟩ : ∃ j, k = j + 1 := ⟨k - 1, by omega⟩
    unfold laws_FnSpanDivNone.f
    by_cases c0 : (l0.length : Int) > 1048576
    · rw [if_pos c0]
    · rw [if_neg c0]
      obtain ⟨x, y, a, b, e, i1, i2, i3, i4⟩ := drawSpanDiv_eq (k + 1) (by omega) l0 w0
      have hsp := spec_SpanDiv_eq (k + 1) (by omega)
      have him := impl_SpanDiv_eq (k + 1) (by omega)
      simp only [e, hsp, him, Bool.false_eq_true, if_false, if_true, eq_self, Option.bind_some, bne_self_eq_false, beq_self_eq_true, Bool.not_true, Bool.not_false, Bool.or_self, Bool.and_self]
      rcases hv : spanDiv x y a b with ⟨p, q, o⟩
      have him := impl_SpanDiv_eq k (by omega)
      simp only [laws_FnSpanDivNone.j0, spec_SpanOk_eq, impl_SpanNeg_eq, him, Bool.false_eq_true, if_false, if_true, eq_self, Option.bind_some, bne_self_eq_false, beq_self_eq_true, Bool.not_true, Bool.not_false, Bool.or_self, Bool.and_self]
      cases o with
      | false => cases okb a b <;> simp
      | true =>
        obtain ⟨c1, c2, _, c3⟩ := spanDiv_in hv
        simp only [c2, spanNeg_mk c1, spanNeg_mk c3, spanDiv_neg hv, Bool.false_eq_true, if_false, if_true, eq_self, Option.bind_some, bne_self_eq_false, beq_self_eq_true, Bool.not_true, Bool.not_false, Bool.or_self, Bool.and_self]
        by_cases d1 : a ≤ 0
        · by_cases d2 : b ≥ 0
          · exact absurd (spanDiv_zero hv d1 d2) (by decide)
          · rw [if_pos d1, if_neg d2]
        · rw [if_neg d1]
  obtain ⟨x, y, a, b, e, i1, i2, i3, i4⟩ := drawSpanDiv_eq 2000000102 (by omega) l0 w0
  have same : ∀ (kd : Nat) (v0 v1 v2 v3 : Int), spec_DrawSpanDiv.f kd l0 = some (v0, v1, v2, v3) → v0 = x ∧ v1 = y ∧ v2 = a ∧ v3 = b := by
    intro kd v0 v1 v2 v3 h1
    have g1 := more (fun k => spec_DrawSpanDiv.mono l0 k) h1 2000000102
    have g2 := more (fun k => spec_DrawSpanDiv.mono l0 k) e kd
    rw [Nat.add_comm, g1] at g2
    simp only [Option.some.injEq, Prod.mk.injEq] at g2
    exact g2
  refine ⟨2000000102, main _ (by omega), (spanDiv x y a b).2.2, ?_, ?_⟩
  · intro kd v0 v1 v2 v3 k2 r h1 h2
    obtain ⟨rfl, rfl, rfl, rfl⟩ := same kd v0 v1 v2 v3 h1
    have g3 := more (fun k => impl_SpanDiv.mono v0 v1 v2 v3 k) h2 2
    rw [impl_SpanDiv_eq (k2 + 2) (by omega)] at g3
    rw [Option.some.inj g3]
  · intro hb kd v0 v1 v2 v3 r h1 h2
    obtain ⟨rfl, rfl, rfl, rfl⟩ := same kd v0 v1 v2 v3 h1
    rw [spec_SpanOk_eq] at h2
    rcases hv : spanDiv v0 v1 v2 v3 with ⟨p, q, o⟩
    rw [hv] at hb
    obtain rfl : o = true := hb
    rw [← Option.some.inj h2]
    exact (spanDiv_in hv).2.1
end Go.Proofs.Ytjhlkdmhlgghbaa.Pure
