/- The hull has both spans in it, and is in whatever has, as the law of the program's SpanHull says it. No condition. -/
import Derived.Test.YtanmfmfifhcbkaaQFnSpanHullx4
import Derived.Test.YtanmfmfifhcbkaaModel
namespace Go.Proofs.Ytanmfmfifhcbkaa.Pure
open Go.RowKit Go.Proofs.Ytanmfmfifhcbkaa.PFnSpanHull Go.Proofs.YtanmfmfifhcbkaaW.PrintWords Go.Proofs.YtanmfmfifhcbkaaW.PrintLast Go.Proofs.Ytanmfmfifhcbkaa.Math
set_option linter.unusedVariables false
set_option linter.unusedSimpArgs false
namespace FnSpanHull
theorem l6In_eq (a l h : Int) : spec_l6In.f a l h = some (decide (l ≤ a ∧ a ≤ h)) := by
  unfold spec_l6In.f
  by_cases c : a ≥ l
  · rw [if_pos c]; congr 1; rw [decide_eq_decide]; omega
  · rw [if_neg c]; congr 1; symm; rw [decide_eq_false_iff_not]; omega
theorem in_eq (a l h : Int) : impl_in.f a l h = some (decide (l ≤ a ∧ a ≤ h)) := by
  unfold impl_in.f
  by_cases c : l ≤ a
  · rw [if_pos c]; congr 1; rw [decide_eq_decide]; omega
  · rw [if_neg c]; congr 1; symm; rw [decide_eq_false_iff_not]; omega
theorem spec_SpanOk_eq (a b : Int) : spec_SpanOk.f a b = some (okb a b) := by
  unfold spec_SpanOk.f okb
  simp only [l6In_eq, Option.bind_some]
  by_cases c : -1073000000 ≤ a ∧ a ≤ 1073000000
  · rw [decide_eq_true c, if_pos rfl]; congr 1; rw [decide_eq_decide]; omega
  · rw [decide_eq_false c, if_neg (by decide)]; congr 1; symm; rw [decide_eq_false_iff_not]; omega
theorem impl_SpanOk_eq (a b : Int) : impl_SpanOk.f a b = some (okb a b) := by
  unfold impl_SpanOk.f okb
  simp only [in_eq, Option.bind_some]
  by_cases c : -1073000000 ≤ a ∧ a ≤ 1073000000
  · rw [decide_eq_true c, if_pos rfl]
    by_cases c2 : -1073000000 ≤ b ∧ b ≤ 1073000000
    · rw [decide_eq_true c2, if_pos rfl]; congr 1; rw [decide_eq_decide]; omega
    · rw [decide_eq_false c2, if_neg (by decide)]; congr 1; symm; rw [decide_eq_false_iff_not]; omega
  · rw [decide_eq_false c, if_neg (by decide)]; congr 1; symm; rw [decide_eq_false_iff_not]; omega
theorem impl_SpanWithin_eq (l h l' h' : Int) : impl_SpanWithin.f l h l' h' = some (spanWithin l h l' h') := by
  unfold impl_SpanWithin.f spanWithin
  simp only [impl_SpanOk_eq, Option.bind_some]
  cases c1 : okb l h <;> cases c2 : okb l' h' <;> by_cases c3 : l' ≤ l <;> simp [c3]
theorem spec_SpanHull_eq (l h l' h' : Int) : spec_SpanHull.f l h l' h' = some (spanHull l h l' h') := by
  unfold spec_SpanHull.f spanHull
  simp only [spec_SpanOk_eq, Option.bind_some]
  cases c1 : okb l h <;> cases c2 : okb l' h' <;> simp
theorem impl_SpanHull_eq (l h l' h' : Int) : impl_SpanHull.f l h l' h' = some (spanHull l h l' h') := by
  unfold impl_SpanHull.f spanHull
  simp only [impl_SpanOk_eq, Option.bind_some]
  cases c1 : okb l h <;> cases c2 : okb l' h' <;> simp
def Bytes (s : List Int) : Prop := s.length ≤ 2000 ∧ ∀ x ∈ s, 0 ≤ x ∧ x ≤ 255
theorem bytes_rd {s : List Int} (h : Bytes s) (i : Int) : 0 ≤ rd s i ∧ rd s i ≤ 255 := by
  unfold rd
  by_cases c : i.toNat < s.length
  · rw [List.getD_eq_getElem?_getD, List.getElem?_eq_getElem c, Option.getD_some]
    exact h.2 _ (List.getElem_mem c)
  · rw [List.getD_eq_getElem?_getD, List.getElem?_eq_none (by omega), Option.getD_none]; omega
theorem l6Open_eq (l : List Int) (h : ∀ x ∈ l, (Lit.int .u8 x).wf = true) : ∃ s, spec_l6Open.f l = some (s, 0) ∧ Bytes s := by
  have hb : ∀ x ∈ l, 0 ≤ x ∧ x ≤ 255 := by
    intro x hx
    have := h x hx
    simp [Lit.wf, IntKind.bits, IntKind.signed, IntKind.min, IntKind.max] at this
    omega
  unfold spec_l6Open.f
  by_cases c : (l.length : Int) > 2000
  · rw [if_pos c, if_pos (by omega)]
    exact ⟨_, rfl, by rw [List.length_take]; omega, fun x hx => hb x (List.mem_of_mem_take hx)⟩
  · rw [if_neg c]
    exact ⟨_, rfl, by omega, hb⟩
theorem pick_eq {s : List Int} (hs : Bytes s) (k : Nat) (p n : Int) (hk : 1 ≤ k) (h0 : 0 ≤ p) (h1 : p ≤ 10000) :
    ∃ v, spec_l6Rd_pick.f k s p n = some (v, p + 1) ∧ 0 ≤ v ∧ (1 ≤ n → v < n) := by
  obtain ⟨k, rfl⟩ : ∃ m, k = m + 1 := ⟨k - 1, by omega⟩
  unfold spec_l6Rd_pick.f
  rw [wrap_id (x := p + 1) (by omega) (by omega)]
  by_cases c : n < 1
  · rw [if_pos c]; simp only [spec_l6Rd_pick.j0, if_true]
    exact ⟨0, rfl, by omega, by omega⟩
  · rw [if_neg c]
    by_cases c2 : (s.length : Int) = 0
    · rw [show ((s.length : Int) == 0) = true by rw [c2]; rfl]; simp only [spec_l6Rd_pick.j0, if_true]
      exact ⟨0, rfl, by omega, by omega⟩
    · have hl := hs.1
      rw [show ((s.length : Int) == 0) = false from beq_eq_false_iff_ne.mpr c2]; simp only [spec_l6Rd_pick.j0, Bool.false_eq_true, if_false]
      rw [show p + 1 - 1 = p by omega, wrap_id (x := p) (by omega) (by omega)]
      by_cases c3 : p < (s.length : Int)
      · rw [if_pos c3, if_pos h0, if_neg (by omega)]
        have hr := bytes_rd hs p
        rw [wrap_id (x := rd s p) (by omega) (by omega)]
        exact ⟨_, rfl, Int.tmod_nonneg _ hr.1, fun _ => Int.tmod_lt_of_pos _ (by omega)⟩
      · have hd := tdiv_pos (b := (s.length : Int)) h0
        have hd0 : 0 ≤ p / (s.length : Int) := Int.ediv_nonneg h0 (by omega)
        have hd1 : p / (s.length : Int) ≤ p := Int.ediv_le_self _ h0
        rw [if_neg c3, if_neg c2, wrap_id (x := p * 7) (by omega) (by omega), wrap_id (x := p * 7 + 3) (by omega) (by omega), if_pos (Int.tmod_nonneg _ h0), if_pos (Int.tmod_lt_of_pos _ (by omega)),
          if_pos (Int.tmod_nonneg _ (by omega)), if_pos (Int.tmod_lt_of_pos _ (by omega)), if_neg (by omega)]
        have ha := bytes_rd hs (Int.tmod p (s.length : Int))
        have hb := bytes_rd hs (Int.tmod (p * 7 + 3) (s.length : Int))
        rw [hd]
        generalize rd s (Int.tmod p (s.length : Int)) = a at *
        generalize rd s (Int.tmod (p * 7 + 3) (s.length : Int)) = b at *
        generalize p / (s.length : Int) = q at *
        rw [wrap_id (x := a) (by omega) (by omega), wrap_id (x := b) (by omega) (by omega), wrap_id (x := q) (by omega) (by omega), wrap_id (x := a * 131) (by omega) (by omega), wrap_id (x := b * 1117) (by omega) (by omega),
          wrap_id (x := p * 29) (by omega) (by omega), wrap_id (x := q * 53) (by omega) (by omega), wrap_id (x := a * 131 + b * 1117) (by omega) (by omega), wrap_id (x := a * 131 + b * 1117 + p * 29) (by omega) (by omega),
          wrap_id (x := a * 131 + b * 1117 + p * 29 + q * 53) (by omega) (by omega), tdiv_pos (a := a * 131 + b * 1117 + p * 29 + q * 53) (by omega)]
        have hx0 : 0 ≤ a * 131 + b * 1117 + p * 29 + q * 53 ∧ a * 131 + b * 1117 + p * 29 + q * 53 ≤ 100000000000 := by omega
        generalize a * 131 + b * 1117 + p * 29 + q * 53 = x at *
        by_cases hx : 0 ≤ x ∧ x ≤ 100000000000
        · rw [wrap_id (x := x / 64) (by omega) (by omega)]
          have hz := xor_nonneg (x := x) (y := x / 64) (by omega) (by omega) (by omega) (by omega)
          exact ⟨_, rfl, Int.tmod_nonneg _ hz.1, fun _ => Int.tmod_lt_of_pos _ (by omega)⟩
        · exact absurd hx0 hx
theorem big_j1 {s : List Int} (hs : Bytes s) (k : Nat) (m x p : Int) (hk : 2 ≤ k) (hm : 0 ≤ m) (hm2 : m ≤ 9223372036854775807) (hx : I64 x) (h0 : 0 ≤ p) (h1 : p ≤ 9000) :
    ∃ r p', spec_l71Big.j1 k m x s p = some (r, p') ∧ I64 r ∧ p ≤ p' ∧ p' ≤ p + 1 := by
  obtain ⟨k, rfl⟩ : ∃ j, k = j + 1 := ⟨k - 1, by omega⟩
  simp only [spec_l71Big.j1]
  by_cases c : x < 0
  · rw [if_pos c]; exact ⟨_, _, rfl, hx, by omega, by omega⟩
  · have hw : wrap64 (m + 1) ≠ 0 := by unfold wrap64; omega
    rw [if_neg c, if_neg hw]
    obtain ⟨v, e, _, _⟩ := pick_eq hs k p 2 (by omega) h0 (by omega)
    rw [e]
    simp only [Option.bind_some]
    have ht : I64 (Int.tmod x (wrap64 (m + 1))) := by
      have a1 := Int.tmod_nonneg (a := x) (wrap64 (m + 1)) (by omega)
      have a2 : Int.tmod x (wrap64 (m + 1)) ≤ x := by
        have := Int.natAbs_tmod x (wrap64 (m + 1))
        have := Nat.mod_le x.natAbs (wrap64 (m + 1)).natAbs
        omega
      unfold I64 at *; omega
    split
    · exact ⟨_, _, rfl, wrap_i64 _, by omega, by omega⟩
    · exact ⟨_, _, rfl, ht, by omega, by omega⟩
theorem big_l0 {s : List Int} (hs : Bytes s) (m : Int) (hm : 0 ≤ m) (hm2 : m ≤ 9223372036854775807) (d : Nat) : ∀ (k : Nat) (x i p : Int), d + 3 ≤ k → d ≤ 4 → i = 4 - d → I64 x → 0 ≤ p → p + d ≤ 8000 →
    ∃ r p', spec_l71Big.l0 k m x i s p = some (r, p') ∧ I64 r ∧ p ≤ p' ∧ p' ≤ p + d + 1 := by
  induction d with
  | zero =>
    intro k x i p hk hd hi hx h0 h1
    obtain ⟨k, rfl⟩ : ∃ j, k = j + 1 := ⟨k - 1, by omega⟩
    simp only [spec_l71Big.l0]
    rw [if_neg (by omega)]
    obtain ⟨r, p', e, h⟩ := big_j1 hs k m x p (by omega) hm hm2 hx h0 (by omega)
    exact ⟨r, p', e, h.1, by omega, by omega⟩
  | succ d ih =>
    intro k x i p hk hd hi hx h0 h1
    obtain ⟨k, rfl⟩ : ∃ j, k = j + 1 := ⟨k - 1, by omega⟩
    simp only [spec_l71Big.l0]
    rw [if_pos (by omega)]
    obtain ⟨v, e, _, _⟩ := pick_eq hs k p 32768 (by omega) h0 (by omega)
    rw [e]
    simp only [Option.bind_some]
    rw [wrap_id (x := i + 1) (by omega) (by omega)]
    obtain ⟨r, p', e2, h2, h3, h4⟩ := ih k (wrap64 (wrap64 (x * 32768) + v)) (i + 1) (p + 1) (by omega) (by omega) (by omega) (wrap_i64 _) (by omega) (by omega)
    exact ⟨r, p', e2, h2, by omega, by omega⟩
theorem big_eq {s : List Int} (hs : Bytes s) (k : Nat) (p m : Int) (hk : 8 ≤ k) (hm : 0 ≤ m) (hm2 : m ≤ 9223372036854775807) (h0 : 0 ≤ p) (h1 : p ≤ 7000) :
    ∃ r p', spec_l71Big.f k s p m = some (r, p') ∧ I64 r ∧ p ≤ p' ∧ p' ≤ p + 10 := by
  unfold spec_l71Big.f
  obtain ⟨v, e, _, _⟩ := pick_eq hs k p 6 (by omega) h0 (by omega)
  rw [e]
  simp only [Option.bind_some]
  split
  · obtain ⟨v, e, _, _⟩ := pick_eq hs k (p + 1) 7 (by omega) (by omega) (by omega)
    rw [e]
    simp only [Option.bind_some]
    obtain ⟨r, p', e, h⟩ := big_j1 hs k m (wrap64 (v - 3)) (p + 1 + 1) (by omega) hm hm2 (wrap_i64 _) (by omega) (by omega)
    exact ⟨r, p', e, h.1, by omega, by omega⟩
  split
  · obtain ⟨v, e, _, _⟩ := pick_eq hs k (p + 1) 3 (by omega) (by omega) (by omega)
    rw [e]
    simp only [Option.bind_some]
    obtain ⟨r, p', e, h⟩ := big_j1 hs k m (wrap64 (m - v)) (p + 1 + 1) (by omega) hm hm2 (wrap_i64 _) (by omega) (by omega)
    exact ⟨r, p', e, h.1, by omega, by omega⟩
  split
  · obtain ⟨v, e, g0, g1⟩ := pick_eq hs k (p + 1) 1048576 (by omega) (by omega) (by omega)
    rw [e]
    simp only [Option.bind_some]
    have g2 := g1 (by omega)
    obtain ⟨r, p', e, h⟩ := big_j1 hs k m v (p + 1 + 1) (by omega) hm hm2 (by unfold I64; omega) (by omega) (by omega)
    exact ⟨r, p', e, h.1, by omega, by omega⟩
  · obtain ⟨r, p', e, h⟩ := big_l0 hs m hm hm2 4 k 0 0 (p + 1) (by omega) (by omega) (by omega) (by unfold I64; omega) (by omega) (by omega)
    exact ⟨r, p', e, h.1, by omega, by omega⟩
theorem mn_i64 {a b : Int} (h0 : I64 a) (h1 : I64 b) : I64 (mn a b) := by unfold I64 mn at *; omega
theorem mx_i64 {a b : Int} (h0 : I64 a) (h1 : I64 b) : I64 (mx a b) := by unfold I64 mx at *; omega
theorem span_j0 {s : List Int} (hs : Bytes s) (k : Nat) (x y p : Int) (hk : 2 ≤ k) (hx : I64 x) (hy : I64 y) (h0 : 0 ≤ p) (h1 : p ≤ 6000) :
    ∃ l h p', spec_l71Span.j0 k x y s p = some (l, h, p') ∧ I64 l ∧ I64 h ∧ p ≤ p' ∧ p' ≤ p + 2 := by
  obtain ⟨k, rfl⟩ : ∃ j, k = j + 1 := ⟨k - 1, by omega⟩
  simp only [spec_l71Span.j0]
  have gl := mn_i64 hx hy
  have gh := mx_i64 hx hy
  obtain ⟨v, e, _, _⟩ := pick_eq hs k p 24 (by omega) h0 (by omega)
  obtain ⟨v2, e2, _, _⟩ := pick_eq hs k (p + 1) 2 (by omega) (by omega) (by omega)
  have i1 : I64 1073000000 := by unfold I64; omega
  have i2 : I64 1073000001 := by unfold I64; omega
  rw [e]
  simp only [Option.bind_some, e2, if_true]
  repeat' split
  all_goals first | exact ⟨_, _, _, rfl, gl, i1, by omega, by omega⟩ | exact ⟨_, _, _, rfl, gl, i2, by omega, by omega⟩ | exact ⟨_, _, _, rfl, gl, wrap_i64 _, by omega, by omega⟩ | exact ⟨_, _, _, rfl, gl, gh, by omega, by omega⟩
theorem span_eq {s : List Int} (hs : Bytes s) (k : Nat) (p : Int) (hk : 8 ≤ k) (h0 : 0 ≤ p) (h1 : p ≤ 5000) :
    ∃ l h p', spec_l71Span.f k s p = some (l, h, p') ∧ I64 l ∧ I64 h ∧ p ≤ p' ∧ p' ≤ p + 30 := by
  unfold spec_l71Span.f
  obtain ⟨a, p1, e1, i1, q1, q1'⟩ := big_eq hs k p 1073000000 hk (by omega) (by omega) h0 (by omega)
  obtain ⟨b, p2, e2, i2, q2, q2'⟩ := big_eq hs k p1 1073000000 hk (by omega) (by omega) (by omega) (by omega)
  obtain ⟨v, e3, _, _⟩ := pick_eq hs k p2 5 (by omega) (by omega) (by omega)
  obtain ⟨v2, e4, _, _⟩ := pick_eq hs k (p2 + 1) 100 (by omega) (by omega) (by omega)
  rw [e1]; simp only [Option.bind_some]
  rw [e2]; simp only [Option.bind_some]
  rw [e3]; simp only [Option.bind_some, e4]
  split
  · obtain ⟨l, h, p', e, g1, g2, g3, g4⟩ := span_j0 hs k a a (p2 + 1) (by omega) i1 i1 (by omega) (by omega)
    exact ⟨l, h, p', e, g1, g2, by omega, by omega⟩
  split
  · obtain ⟨l, h, p', e, g1, g2, g3, g4⟩ := span_j0 hs k a (wrap64 (a + v2)) (p2 + 1 + 1) (by omega) i1 (wrap_i64 _) (by omega) (by omega)
    exact ⟨l, h, p', e, g1, g2, by omega, by omega⟩
  split
  · obtain ⟨l, h, p', e, g1, g2, g3, g4⟩ := span_j0 hs k a (wrap64 (a + v2)) (p2 + 1 + 1) (by omega) i1 (wrap_i64 _) (by omega) (by omega)
    exact ⟨l, h, p', e, g1, g2, by omega, by omega⟩
  · obtain ⟨l, h, p', e, g1, g2, g3, g4⟩ := span_j0 hs k a b (p2 + 1) (by omega) i1 i2 (by omega) (by omega)
    exact ⟨l, h, p', e, g1, g2, by omega, by omega⟩
theorem drawSpanHull_eq (k : Nat) (hk : 9 ≤ k) (l : List Int) (h : ∀ x ∈ l, (Lit.int .u8 x).wf = true) : ∃ x y a b, spec_DrawSpanHull.f k l = some (x, y, a, b) ∧ I64 x ∧ I64 y ∧ I64 a ∧ I64 b := by
  unfold spec_DrawSpanHull.f
  obtain ⟨s, e, hs⟩ := l6Open_eq l h
  obtain ⟨x, y, p, e2, i1, i2, _, _⟩ := span_eq hs k 0 (by omega) (by omega) (by omega)
  obtain ⟨x2, y2, p2, e4, i3, i4, _, _⟩ := span_eq hs k p (by omega) (by omega) (by omega)
  rw [e]; simp only [Option.bind_some]
  rw [e2]; simp only [Option.bind_some]
  rw [e4]; simp only [Option.bind_some]
  exact ⟨_, _, _, _, rfl, i1, i2, i3, i4⟩
end FnSpanHull
open FnSpanHull
theorem FnSpanHull : laws_FnSpanHull.Pure := by
  refine ⟨fun a0_0 a0_1 a1_0 a1_1 r1 r2 h1 h2 => Option.some.inj (h2.symm.trans ((impl_SpanHull_eq a0_0 a0_1 a1_0 a1_1).trans ((spec_SpanHull_eq a0_0 a0_1 a1_0 a1_1).symm.trans h1))), ?_⟩
  intro l0 l1 m0 y0 w0 m1 y1 w1
  refine ⟨2000000102, ?_⟩
  unfold laws_FnSpanHull.f
  have main : ∀ (k : Nat) (t : Bool), 2000000102 ≤ k → laws_FnSpanHull.j0 k l0 l1 t = some true := by
    intro k t hk
    obtain ⟨k, rfl⟩ : ∃ j, k = j + 2 := ⟨k - 2, by omega⟩
    cases t with
    | true => simp only [laws_FnSpanHull.j0, if_true]
    | false =>
      obtain ⟨x, y, a, b, e, i1, i2, i3, i4⟩ := drawSpanHull_eq (k + 1) (by omega) l0 w0
      obtain ⟨c, d, u, v, e2, i5, i6, _, _⟩ := drawSpanHull_eq (k + 1) (by omega) l1 w1
      simp only [laws_FnSpanHull.j0, e, e2, spec_SpanHull_eq, impl_SpanHull_eq, spec_SpanOk_eq, Bool.false_eq_true, if_false, if_true, eq_self, Option.bind_some, bne_self_eq_false, beq_self_eq_true, Bool.not_true, Bool.not_false, Bool.or_self, Bool.and_self]
      cases c1 : okb x y with
      | false => simp [laws_FnSpanHull.j1, spec_SpanHull_eq]
      | true =>
        cases c2 : okb a b with
        | false => simp [laws_FnSpanHull.j1, spec_SpanHull_eq]
        | true =>
          have k1 := okb_true.mp c1
          have k2 := okb_true.mp c2
          have m1 := mn_in x a
          have m2 := mx_in y b
          have hh : spanHull x y a b = (mn x a, mx y b) := by unfold spanHull; rw [c1, c2]; rfl
          have hs : spanHull a b x y = (mn x a, mx y b) := by
            unfold spanHull; rw [c1, c2]
            have e1 : mn a x = mn x a := by unfold mn; omega
            have e2 : mx b y = mx y b := by unfold mx; omega
            rw [e1, e2]; rfl
          have c3 : okb (mn x a) (mx y b) = true := okb_true.mpr (by omega)
          have w1 : spanWithin x y (mn x a) (mx y b) = true := within_true.mpr ⟨c1, c3, by omega, by omega⟩
          have w2 : spanWithin a b (mn x a) (mx y b) = true := within_true.mpr ⟨c2, c3, by omega, by omega⟩
          simp only [laws_FnSpanHull.j1, hh, hs, impl_SpanWithin_eq, impl_SpanHull_eq, w1, w2, Bool.false_eq_true, if_false, if_true, eq_self, Option.bind_some, bne_self_eq_false, beq_self_eq_true, Bool.not_true, Bool.not_false, Bool.or_self, Bool.and_self]
          cases w3 : spanWithin x y c d with
          | false => simp
          | true =>
            cases w4 : spanWithin a b c d with
            | false => simp
            | true =>
              obtain ⟨_, c5, f1, f2⟩ := within_true.mp w3
              obtain ⟨_, _, f3, f4⟩ := within_true.mp w4
              have w5 : spanWithin (mn x a) (mx y b) c d = true := within_true.mpr ⟨c3, c5, by omega, by omega⟩
              simp [w5]
  split
  · exact main _ _ (by omega)
  · exact main _ _ (by omega)
end Go.Proofs.Ytanmfmfifhcbkaa.Pure
