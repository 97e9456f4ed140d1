/- The plain models of the program's functions: spans, quotients, roots; and the plain laws over them. No program in sight. -/
import Derived.Test.YtjhlkdmhlgghbaaMath
namespace Go.Proofs.Ytjhlkdmhlgghbaa.Math
open Go.RowKit Go.Proofs.YtjhlkdmhlgghbaaW.PrintWords
set_option linter.unusedVariables false
set_option linter.unusedSimpArgs false

def okb (l h : Int) : Bool := decide (-1073000000 ≤ l ∧ l ≤ h ∧ h ≤ 1073000000)
theorem okb_true {l h : Int} : okb l h = true ↔ (-1073000000 ≤ l ∧ l ≤ h ∧ h ≤ 1073000000) := by unfold okb; simp
theorem okb_false {l h : Int} : okb l h = false ↔ ¬ (-1073000000 ≤ l ∧ l ≤ h ∧ h ≤ 1073000000) := by unfold okb; simp
def told (l h : Int) : Int × Int × Bool := if okb l h = true then (l, h, true) else (0, 0, false)
theorem told_pos {l h : Int} (c : okb l h = true) : told l h = (l, h, true) := by unfold told; rw [if_pos c]
theorem told_neg {l h : Int} (c : okb l h = false) : told l h = (0, 0, false) := by unfold told; rw [if_neg (by simp [c])]
theorem told_in {l h x y : Int} (e : told l h = (x, y, true)) : l = x ∧ h = y ∧ okb x y = true := by
  unfold told at e
  split at e
  · simp only [Prod.mk.injEq] at e; obtain ⟨rfl, rfl, _⟩ := e; exact ⟨rfl, rfl, by assumption⟩
  · simp at e
def ratb (a b : Int) : Bool := decide (-1000000000 ≤ a ∧ a ≤ 1000000000 ∧ 1 ≤ b ∧ b ≤ 1000000000)
theorem ratb_true {a b : Int} : ratb a b = true ↔ (-1000000000 ≤ a ∧ a ≤ 1000000000 ∧ 1 ≤ b ∧ b ≤ 1000000000) := by unfold ratb; simp
theorem ratb_false {a b : Int} : ratb a b = false ↔ ¬ (-1000000000 ≤ a ∧ a ≤ 1000000000 ∧ 1 ≤ b ∧ b ≤ 1000000000) := by unfold ratb; simp
def divb (a b : Int) : Bool := decide (-1152921504606846976 ≤ a ∧ a ≤ 1152921504606846976 ∧ 1 ≤ b ∧ b ≤ 1152921504606846976)
theorem divb_true {a b : Int} : divb a b = true ↔ (-1152921504606846976 ≤ a ∧ a ≤ 1152921504606846976 ∧ 1 ≤ b ∧ b ≤ 1152921504606846976) := by unfold divb; simp
theorem divb_false {a b : Int} : divb a b = false ↔ ¬ (-1152921504606846976 ≤ a ∧ a ≤ 1152921504606846976 ∧ 1 ≤ b ∧ b ≤ 1152921504606846976) := by unfold divb; simp
def even (a b : Int) : Int := if a - a / b * b > b - (a - a / b * b) ∨ a - a / b * b = b - (a - a / b * b) ∧ a / b % 2 ≠ 0 then a / b + 1 else a / b
def rnd (a b w : Int) : Int := if w = 1 then a / b else if w = 2 then up a b else if w = 3 then (if a < 0 then up a b else a / b) else even a b
theorem rnd_one (a b : Int) : rnd a b 1 = a / b := by simp [rnd]
theorem rnd_two (a b : Int) : rnd a b 2 = up a b := by simp [rnd]
theorem rnd_three (a b : Int) : rnd a b 3 = (if a < 0 then up a b else a / b) := by simp [rnd]
theorem rnd_four (a b : Int) : rnd a b 4 = even a b := by simp [rnd]
def wayb (w : Int) : Bool := decide (1 ≤ w ∧ w ≤ 4)
theorem wayb_true {w : Int} : wayb w = true ↔ (1 ≤ w ∧ w ≤ 4) := by unfold wayb; simp
theorem wayb_false {w : Int} : wayb w = false ↔ ¬ (1 ≤ w ∧ w ≤ 4) := by unfold wayb; simp
def numRound (a b w : Int) : Int × Bool := if (divb a b && wayb w) = true then (rnd a b w, true) else (0, false)
def numDown (a b : Int) : Int × Bool := if divb a b = true then (a / b, true) else (0, false)
def numUp (a b : Int) : Int × Bool := if divb a b = true then (up a b, true) else (0, false)
def rootb (a : Int) : Bool := decide (0 ≤ a ∧ a ≤ 1152921504606846976)
theorem rootb_true {a : Int} : rootb a = true ↔ (0 ≤ a ∧ a ≤ 1152921504606846976) := by unfold rootb; simp
theorem rootb_false {a : Int} : rootb a = false ↔ ¬ (0 ≤ a ∧ a ≤ 1152921504606846976) := by unfold rootb; simp
noncomputable def numRoot (a : Int) : Int × Bool := if rootb a = true then (isq a, true) else (0, false)

def spanOf (a b : Int) : Int × Int × Bool := if ratb a b = true then told (a * 1000000000 / b) (up (a * 1000000000) b) else (0, 0, false)
def spanHas (l h a b : Int) : Bool := okb l h && ratb a b && decide (l * b ≤ a * 1000000000) && decide (a * 1000000000 ≤ h * b)
def spanWithin (l h l' h' : Int) : Bool := okb l h && okb l' h' && decide (l' ≤ l) && decide (h ≤ h')
def spanHull (l h l' h' : Int) : Int × Int := if (okb l h && okb l' h') = true then (mn l l', mx h h') else (0, 0)
def spanMeet (l h l' h' : Int) : Int × Int × Bool := if (okb l h && okb l' h') = true then told (mx l l') (mn h h') else (0, 0, false)
def spanNeg (l h : Int) : Int × Int := if okb l h = true then (-h, -l) else (0, 0)
def spanAdd (l h l' h' : Int) : Int × Int × Bool := if (okb l h && okb l' h') = true then told (l + l') (h + h') else (0, 0, false)
def spanSub (l h l' h' : Int) : Int × Int × Bool := if (okb l h && okb l' h') = true then told (l - h') (h - l') else (0, 0, false)
def spanMul (l h l' h' : Int) : Int × Int × Bool :=
  if (okb l h && okb l' h') = true then told (lo4 (l * l') (l * h') (h * l') (h * h') / 1000000000) (up (hi4 (l * l') (l * h') (h * l') (h * h')) 1000000000) else (0, 0, false)
noncomputable def spanRoot (l h : Int) : Int × Int × Bool := if (okb l h && decide (0 ≤ l)) = true then told (isq (l * 1000000000)) (rup (h * 1000000000)) else (0, 0, false)
/-- A span divided by one above 0. -/
def divPos (l h l' h' : Int) : Int × Int × Bool :=
  told (mn (l * 1000000000 / l') (l * 1000000000 / h')) (mx (up (h * 1000000000) l') (up (h * 1000000000) h'))
def spanDiv (l h l' h' : Int) : Int × Int × Bool :=
  if (okb l h && okb l' h' && !decide (l' ≤ 0 ∧ 0 ≤ h')) = true then (if h' < 0 then divPos (-h) (-l) (-h') (-l') else divPos l h l' h') else (0, 0, false)

/-! ### what a span that is told is made of -/
theorem spanOf_in {a b p q : Int} (e : spanOf a b = (p, q, true)) : ratb a b = true ∧ p = a * 1000000000 / b ∧ q = up (a * 1000000000) b ∧ okb p q = true := by
  unfold spanOf at e
  split at e
  · obtain ⟨rfl, rfl, h⟩ := told_in e; exact ⟨by assumption, rfl, rfl, h⟩
  · simp at e
theorem spanMeet_in {l h l' h' p q : Int} (e : spanMeet l h l' h' = (p, q, true)) : okb l h = true ∧ okb l' h' = true ∧ p = mx l l' ∧ q = mn h h' ∧ okb p q = true := by
  unfold spanMeet at e
  split at e
  · rename_i c; rw [Bool.and_eq_true] at c
    obtain ⟨rfl, rfl, h⟩ := told_in e; exact ⟨c.1, c.2, rfl, rfl, h⟩
  · simp at e
theorem spanAdd_in {l h l' h' p q : Int} (e : spanAdd l h l' h' = (p, q, true)) : okb l h = true ∧ okb l' h' = true ∧ p = l + l' ∧ q = h + h' ∧ okb p q = true := by
  unfold spanAdd at e
  split at e
  · rename_i c; rw [Bool.and_eq_true] at c
    obtain ⟨rfl, rfl, h⟩ := told_in e; exact ⟨c.1, c.2, rfl, rfl, h⟩
  · simp at e
theorem spanSub_in {l h l' h' p q : Int} (e : spanSub l h l' h' = (p, q, true)) : okb l h = true ∧ okb l' h' = true ∧ p = l - h' ∧ q = h - l' ∧ okb p q = true := by
  unfold spanSub at e
  split at e
  · rename_i c; rw [Bool.and_eq_true] at c
    obtain ⟨rfl, rfl, h⟩ := told_in e; exact ⟨c.1, c.2, rfl, rfl, h⟩
  · simp at e
theorem spanMul_in {l h l' h' p q : Int} (e : spanMul l h l' h' = (p, q, true)) : okb l h = true ∧ okb l' h' = true ∧
    p = lo4 (l * l') (l * h') (h * l') (h * h') / 1000000000 ∧ q = up (hi4 (l * l') (l * h') (h * l') (h * h')) 1000000000 ∧ okb p q = true := by
  unfold spanMul at e
  split at e
  · rename_i c; rw [Bool.and_eq_true] at c
    obtain ⟨rfl, rfl, h⟩ := told_in e; exact ⟨c.1, c.2, rfl, rfl, h⟩
  · simp at e
theorem spanRoot_in {l h p q : Int} (e : spanRoot l h = (p, q, true)) : okb l h = true ∧ 0 ≤ l ∧ p = isq (l * 1000000000) ∧ q = rup (h * 1000000000) ∧ okb p q = true := by
  unfold spanRoot at e
  split at e
  · rename_i c; rw [Bool.and_eq_true] at c
    obtain ⟨rfl, rfl, h⟩ := told_in e; exact ⟨c.1, of_decide_eq_true c.2, rfl, rfl, h⟩
  · simp at e
theorem spanAdd_mk {l h l' h' : Int} (c1 : okb l h = true) (c2 : okb l' h' = true) (c3 : okb (l + l') (h + h') = true) : spanAdd l h l' h' = (l + l', h + h', true) := by
  unfold spanAdd; rw [c1, c2, told_pos c3]; rfl
theorem spanSub_mk {l h l' h' : Int} (c1 : okb l h = true) (c2 : okb l' h' = true) (c3 : okb (l - h') (h - l') = true) : spanSub l h l' h' = (l - h', h - l', true) := by
  unfold spanSub; rw [c1, c2, told_pos c3]; rfl
theorem spanMeet_mk {l h l' h' : Int} (c1 : okb l h = true) (c2 : okb l' h' = true) (c3 : okb (mx l l') (mn h h') = true) : spanMeet l h l' h' = (mx l l', mn h h', true) := by
  unfold spanMeet; rw [c1, c2, told_pos c3]; rfl
theorem spanMul_mk {l h l' h' : Int} (c1 : okb l h = true) (c2 : okb l' h' = true)
    (c3 : okb (lo4 (l * l') (l * h') (h * l') (h * h') / 1000000000) (up (hi4 (l * l') (l * h') (h * l') (h * h')) 1000000000) = true) :
    spanMul l h l' h' = (lo4 (l * l') (l * h') (h * l') (h * h') / 1000000000, up (hi4 (l * l') (l * h') (h * l') (h * h')) 1000000000, true) := by
  unfold spanMul; rw [c1, c2, told_pos c3]; rfl
theorem spanNeg_mk {l h : Int} (c : okb l h = true) : spanNeg l h = (-h, -l) := by unfold spanNeg; rw [if_pos c]
theorem okb_neg {l h : Int} (c : okb l h = true) : okb (-h) (-l) = true := by have := okb_true.mp c; exact okb_true.mpr (by omega)
theorem within_true {l h l' h' : Int} : spanWithin l h l' h' = true ↔ (okb l h = true ∧ okb l' h' = true ∧ l' ≤ l ∧ h ≤ h') := by
  unfold spanWithin; simp [Bool.and_eq_true, and_assoc]
theorem has_true {l h a b : Int} : spanHas l h a b = true ↔ (okb l h = true ∧ ratb a b = true ∧ l * b ≤ a * 1000000000 ∧ a * 1000000000 ≤ h * b) := by
  unfold spanHas; simp [Bool.and_eq_true, and_assoc]

/-! ### the laws, plainly -/
/-- The product of numbers of two spans lies within the span's product, in parts of parts. -/
theorem mul_holds {l h l' h' p q m n : Int} (e : spanMul l h l' h' = (p, q, true)) (h1 : l ≤ m) (h2 : m ≤ h) (h3 : l' ≤ n) (h4 : n ≤ h') :
    p * 1000000000 ≤ m * n ∧ m * n ≤ q * 1000000000 := by
  obtain ⟨_, _, rfl, rfl, _⟩ := spanMul_in e
  have h5 := mul_four h1 h2 h3 h4
  have h6 := dn_bd (a := lo4 (l * l') (l * h') (h * l') (h * h')) (b := 1000000000) (by omega)
  have h7 := up_bd (a := hi4 (l * l') (l * h') (h * l') (h * h')) (b := 1000000000) (by omega)
  omega
theorem lo4_mid (a b c d : Int) : lo4 a c b d = lo4 a b c d := by unfold lo4 mn; omega
theorem hi4_mid (a b c d : Int) : hi4 a c b d = hi4 a b c d := by unfold hi4 mx; omega
theorem mul_swap (l h l' h' : Int) : spanMul l' h' l h = spanMul l h l' h' := by
  unfold spanMul
  rw [Int.mul_comm l' l, Int.mul_comm l' h, Int.mul_comm h' l, Int.mul_comm h' h, lo4_mid, hi4_mid, Bool.and_comm]
theorem lo4_neg (a b c d : Int) : lo4 (-c) (-d) (-a) (-b) = -(hi4 a b c d) := by unfold lo4 hi4 mn mx; omega
theorem hi4_neg (a b c d : Int) : hi4 (-c) (-d) (-a) (-b) = -(lo4 a b c d) := by unfold lo4 hi4 mn mx; omega
theorem mul_neg_one {l h l' h' p q : Int} (e : spanMul l h l' h' = (p, q, true)) : spanMul (-h) (-l) l' h' = (-q, -p, true) := by
  obtain ⟨c1, c2, rfl, rfl, c3⟩ := spanMul_in e
  have e1 : lo4 (-h * l') (-h * h') (-l * l') (-l * h') = -(hi4 (l * l') (l * h') (h * l') (h * h')) := by
    rw [Int.neg_mul, Int.neg_mul, Int.neg_mul, Int.neg_mul, lo4_neg]
  have e2 : hi4 (-h * l') (-h * h') (-l * l') (-l * h') = -(lo4 (l * l') (l * h') (h * l') (h * h')) := by
    rw [Int.neg_mul, Int.neg_mul, Int.neg_mul, Int.neg_mul, hi4_neg]
  have g1 : -(hi4 (l * l') (l * h') (h * l') (h * h')) / 1000000000 = -(up (hi4 (l * l') (l * h') (h * l') (h * h')) 1000000000) := by rw [neg_up]
  have g2 : up (-(lo4 (l * l') (l * h') (h * l') (h * h'))) 1000000000 = -(lo4 (l * l') (l * h') (h * l') (h * h') / 1000000000) := by rw [up_neg]
  rw [spanMul_mk (okb_neg c1) c2 (by rw [e1, e2, g1, g2]; exact okb_neg c3), e1, e2, g1, g2]
theorem mul_unit {l h : Int} (c : okb l h = true) : spanMul l h 1000000000 1000000000 = (l, h, true) := by
  have k := okb_true.mp c
  have c2 : okb 1000000000 1000000000 = true := okb_true.mpr (by omega)
  have e1 : lo4 (l * 1000000000) (l * 1000000000) (h * 1000000000) (h * 1000000000) = l * 1000000000 := by unfold lo4 mn; omega
  have e2 : hi4 (l * 1000000000) (l * 1000000000) (h * 1000000000) (h * 1000000000) = h * 1000000000 := by unfold hi4 mx; omega
  have g1 : l * 1000000000 / 1000000000 = l := by omega
  have g2 : up (h * 1000000000) 1000000000 = h := up_eq (by omega) (by omega) (by omega)
  rw [spanMul_mk c c2 (by rw [e1, e2, g1, g2]; exact c), e1, e2, g1, g2]
/-- Of a part the product is a part. -/
theorem mul_part {l h l' h' p q m : Int} (e : spanMul l h l' h' = (p, q, true)) (h1 : l ≤ m) (h2 : m ≤ h) :
    ∃ x y, spanMul m h l' h' = (x, y, true) ∧ okb x y = true ∧ p ≤ x ∧ y ≤ q := by
  obtain ⟨c1, c2, rfl, rfl, c3⟩ := spanMul_in e
  have k1 := okb_true.mp c1
  have k2 := okb_true.mp c2
  have k3 := okb_true.mp c3
  have c4 : okb m h = true := okb_true.mpr (by omega)
  have a1 := mul_four (p := m) (q := l') h1 h2 (show l' ≤ l' by omega) k2.2.1
  have a2 := mul_four (p := m) (q := h') h1 h2 k2.2.1 (show h' ≤ h' by omega)
  have a3 := mul_four (p := h) (q := l') (show l ≤ h by omega) (show h ≤ h by omega) (show l' ≤ l' by omega) k2.2.1
  have a4 := mul_four (p := h) (q := h') (show l ≤ h by omega) (show h ≤ h by omega) k2.2.1 (show h' ≤ h' by omega)
  have b1 := lo4_in (m * l') (m * h') (h * l') (h * h')
  have b2 := hi4_in (m * l') (m * h') (h * l') (h * h')
  have d1 := dn_mono (a := lo4 (l * l') (l * h') (h * l') (h * h')) (a' := lo4 (m * l') (m * h') (h * l') (h * h')) (b := 1000000000) (by omega) (by omega)
  have d2 := up_mono (a := hi4 (m * l') (m * h') (h * l') (h * h')) (a' := hi4 (l * l') (l * h') (h * l') (h * h')) (b := 1000000000) (by omega) (by omega)
  have d3 := dn_mono (a := lo4 (m * l') (m * h') (h * l') (h * h')) (a' := hi4 (m * l') (m * h') (h * l') (h * h')) (b := 1000000000) (by omega) (by omega)
  have d4 := dn_le_up (a := hi4 (m * l') (m * h') (h * l') (h * h')) (b := 1000000000) (by omega)
  have c5 : okb (lo4 (m * l') (m * h') (h * l') (h * h') / 1000000000) (up (hi4 (m * l') (m * h') (h * l') (h * h')) 1000000000) = true := okb_true.mpr (by omega)
  exact ⟨_, _, spanMul_mk c4 c2 c5, c5, d1, d2⟩
theorem add_part {l h l' h' p q m : Int} (e : spanAdd l h l' h' = (p, q, true)) (h1 : l ≤ m) (h2 : m ≤ h) :
    ∃ x y, spanAdd m h l' h' = (x, y, true) ∧ okb x y = true ∧ p ≤ x ∧ y ≤ q := by
  obtain ⟨c1, c2, rfl, rfl, c3⟩ := spanAdd_in e
  have k1 := okb_true.mp c1
  have k2 := okb_true.mp c2
  have k3 := okb_true.mp c3
  have c4 : okb m h = true := okb_true.mpr (by omega)
  have c5 : okb (m + l') (h + h') = true := okb_true.mpr (by omega)
  exact ⟨_, _, spanAdd_mk c4 c2 c5, c5, by omega, by omega⟩

/-- A span divided by one above 0 holds each quotient. -/
theorem divPos_holds {l h l' h' p q m n : Int} (e : divPos l h l' h' = (p, q, true)) (g : 1 ≤ l') (h1 : l ≤ m) (h2 : m ≤ h) (h3 : l' ≤ n) (h4 : n ≤ h') :
    p * n ≤ m * 1000000000 ∧ m * 1000000000 ≤ q * n := by
  unfold divPos at e
  obtain ⟨rfl, rfl, _⟩ := told_in e
  have a1 := mn_in (l * 1000000000 / l') (l * 1000000000 / h')
  have a2 := mx_in (up (h * 1000000000) l') (up (h * 1000000000) h')
  constructor
  · have b1 := dn_bd (a := l * 1000000000) (b := l') (by omega)
    have b2 := dn_bd (a := l * 1000000000) (b := h') (by omega)
    have e1 := mul_mid (q := mn (l * 1000000000 / l') (l * 1000000000 / h')) h3 h4
    have f1 : mn (l * 1000000000 / l') (l * 1000000000 / h') * l' ≤ l * 1000000000 / l' * l' := Int.mul_le_mul_of_nonneg_right a1.1 (by omega)
    have f2 : mn (l * 1000000000 / l') (l * 1000000000 / h') * h' ≤ l * 1000000000 / h' * h' := Int.mul_le_mul_of_nonneg_right a1.2.1 (by omega)
    rw [Int.mul_comm l', Int.mul_comm n, Int.mul_comm h'] at e1
    omega
  · have b1 := up_bd (a := h * 1000000000) (b := l') (by omega)
    have b2 := up_bd (a := h * 1000000000) (b := h') (by omega)
    have e1 := mul_mid (q := mx (up (h * 1000000000) l') (up (h * 1000000000) h')) h3 h4
    have f1 : up (h * 1000000000) l' * l' ≤ mx (up (h * 1000000000) l') (up (h * 1000000000) h') * l' := Int.mul_le_mul_of_nonneg_right a2.1 (by omega)
    have f2 : up (h * 1000000000) h' * h' ≤ mx (up (h * 1000000000) l') (up (h * 1000000000) h') * h' := Int.mul_le_mul_of_nonneg_right a2.2.1 (by omega)
    rw [Int.mul_comm l', Int.mul_comm n, Int.mul_comm h'] at e1
    omega
theorem divPos_neg {l h l' h' p q : Int} (e : divPos l h l' h' = (p, q, true)) : divPos (-h) (-l) l' h' = (-q, -p, true) := by
  unfold divPos at e ⊢
  obtain ⟨rfl, rfl, c⟩ := told_in e
  have e1 : mn (-h * 1000000000 / l') (-h * 1000000000 / h') = -(mx (up (h * 1000000000) l') (up (h * 1000000000) h')) := by
    rw [Int.neg_mul, ← neg_up, ← neg_up]; unfold mn mx; omega
  have e2 : mx (up (-l * 1000000000) l') (up (-l * 1000000000) h') = -(mn (l * 1000000000 / l') (l * 1000000000 / h')) := by
    rw [Int.neg_mul, up_neg, up_neg]; unfold mn mx; omega
  rw [e1, e2, told_pos (okb_neg c)]
theorem spanDiv_in {l h l' h' p q : Int} (e : spanDiv l h l' h' = (p, q, true)) : okb l h = true ∧ okb l' h' = true ∧
    ((1 ≤ l' ∧ divPos l h l' h' = (p, q, true)) ∨ (h' < 0 ∧ divPos (-h) (-l) (-h') (-l') = (p, q, true))) ∧ okb p q = true := by
  unfold spanDiv at e
  split at e
  · rename_i c
    simp only [Bool.and_eq_true, Bool.not_eq_true', decide_eq_false_iff_not] at c
    have k := okb_true.mp c.1.2
    split at e
    · have h5 := e
      unfold divPos at h5
      exact ⟨c.1.1, c.1.2, .inr ⟨by assumption, e⟩, (told_in h5).2.2⟩
    · have h5 := e
      unfold divPos at h5
      exact ⟨c.1.1, c.1.2, .inl ⟨by omega, e⟩, (told_in h5).2.2⟩
  · simp at e
theorem spanDiv_zero {l h l' h' p q : Int} {o : Bool} (e : spanDiv l h l' h' = (p, q, o)) (h1 : l' ≤ 0) (h2 : 0 ≤ h') : o = false := by
  unfold spanDiv at e
  rw [decide_eq_true (show l' ≤ 0 ∧ 0 ≤ h' from ⟨h1, h2⟩)] at e
  simp at e
  exact e.2.2
theorem spanDiv_neg {l h l' h' p q : Int} (e : spanDiv l h l' h' = (p, q, true)) : spanDiv (-h) (-l) l' h' = (-q, -p, true) := by
  obtain ⟨c1, c2, c3, c4⟩ := spanDiv_in e
  have k := okb_true.mp c2
  unfold spanDiv
  rw [okb_neg c1, c2]
  rcases c3 with ⟨g, e2⟩ | ⟨g, e2⟩
  · rw [decide_eq_false (show ¬ (l' ≤ 0 ∧ 0 ≤ h') by omega), if_neg (show ¬ h' < 0 by omega), divPos_neg e2]; rfl
  · rw [decide_eq_false (show ¬ (l' ≤ 0 ∧ 0 ≤ h') by omega), if_pos g, Int.neg_neg, Int.neg_neg]
    have := divPos_neg e2
    rw [Int.neg_neg, Int.neg_neg] at this
    rw [this]; rfl
/-- Divided and multiplied again: a span lies in what comes of it. -/
theorem div_back {l h l' h' p q x y : Int} (e : spanDiv l h l' h' = (p, q, true)) (e2 : spanMul p q l' h' = (x, y, true)) : x ≤ l ∧ h ≤ y := by
  obtain ⟨c1, c2, c3, c4⟩ := spanDiv_in e
  obtain ⟨c5, c6, rfl, rfl, c7⟩ := spanMul_in e2
  have k1 := okb_true.mp c1
  have k2 := okb_true.mp c2
  have a1 := lo4_in (p * l') (p * h') (q * l') (q * h')
  have a2 := hi4_in (p * l') (p * h') (q * l') (q * h')
  rcases c3 with ⟨g, e3⟩ | ⟨g, e3⟩
  · have b1 := divPos_holds e3 g (m := l) (n := l') (by omega) (by omega) (by omega) (by omega)
    have b2 := divPos_holds e3 g (m := h) (n := h') (by omega) (by omega) (by omega) (by omega)
    refine ⟨?_, ?_⟩
    · have := (dn_lt (a := lo4 (p * l') (p * h') (q * l') (q * h')) (b := 1000000000) (q := l + 1) (by omega)).mpr (by omega)
      omega
    · have := (lt_up (a := hi4 (p * l') (p * h') (q * l') (q * h')) (b := 1000000000) (q := h - 1) (by omega)).mpr (by omega)
      omega
  · have b1 := divPos_holds e3 (by omega) (m := -l) (n := -l') (by omega) (by omega) (by omega) (by omega)
    have b2 := divPos_holds e3 (by omega) (m := -h) (n := -h') (by omega) (by omega) (by omega) (by omega)
    rw [Int.mul_neg, Int.mul_neg] at b1 b2
    refine ⟨?_, ?_⟩
    · have := (dn_lt (a := lo4 (p * l') (p * h') (q * l') (q * h')) (b := 1000000000) (q := l + 1) (by omega)).mpr (by omega)
      omega
    · have := (lt_up (a := hi4 (p * l') (p * h') (q * l') (q * h')) (b := 1000000000) (q := h - 1) (by omega)).mpr (by omega)
      omega
/-- A span lies in the square of its root. -/
theorem root_back {l h p q x y : Int} (e : spanRoot l h = (p, q, true)) (e2 : spanMul p q p q = (x, y, true)) : x ≤ l ∧ h ≤ y := by
  obtain ⟨c1, c2, rfl, rfl, c3⟩ := spanRoot_in e
  obtain ⟨c5, c6, rfl, rfl, c7⟩ := spanMul_in e2
  have k1 := okb_true.mp c1
  obtain ⟨g0, g1, g2⟩ := isq_is (a := l * 1000000000) (by omega)
  obtain ⟨r0, r1, r2⟩ := rup_is (a := h * 1000000000) (by omega)
  generalize isq (l * 1000000000) = p at *
  generalize rup (h * 1000000000) = q at *
  have a1 := lo4_in (p * p) (p * q) (q * p) (q * q)
  have a2 := hi4_in (p * p) (p * q) (q * p) (q * q)
  refine ⟨?_, ?_⟩
  · have := (dn_lt (a := lo4 (p * p) (p * q) (q * p) (q * q)) (b := 1000000000) (q := l + 1) (by omega)).mpr (by omega)
    omega
  · have := (lt_up (a := hi4 (p * p) (p * q) (q * p) (q * q)) (b := 1000000000) (q := h - 1) (by omega)).mpr (by omega)
    omega
/-- The root of a number of a span is told, lies in the span's root, and is one part wide at most. -/
theorem root_more {l h p q n : Int} (e : spanRoot l h = (p, q, true)) (h1 : l ≤ n) (h2 : n ≤ h) :
    ∃ x y, spanRoot n n = (x, y, true) ∧ okb x y = true ∧ p ≤ x ∧ y ≤ q ∧ y - x ≤ 1 := by
  obtain ⟨c1, c2, rfl, rfl, c3⟩ := spanRoot_in e
  have k1 := okb_true.mp c1
  have k3 := okb_true.mp c3
  have m1 := isq_mono (a := l * 1000000000) (b := n * 1000000000) (by omega) (by omega)
  have m2 := rup_mono (a := n * 1000000000) (b := h * 1000000000) (by omega) (by omega)
  have m3 := rup_is (a := n * 1000000000) (by omega)
  have m4 := isq_is (a := n * 1000000000) (by omega)
  have c4 : okb n n = true := okb_true.mpr (by omega)
  have c5 : okb (isq (n * 1000000000)) (rup (n * 1000000000)) = true := okb_true.mpr (by omega)
  refine ⟨_, _, ?_, c5, m1, m2, by omega⟩
  unfold spanRoot
  rw [c4, decide_eq_true (show 0 ≤ n by omega), told_pos c5]; rfl

/-! ### rounding -/
theorem numRound_in {a b w x : Int} (e : numRound a b w = (x, true)) : (divb a b && wayb w) = true ∧ x = rnd a b w := by
  unfold numRound at e
  split at e
  · simp only [Prod.mk.injEq] at e; exact ⟨by assumption, e.1.symm⟩
  · simp at e
theorem even_in (a b : Int) : even a b = a / b ∨ even a b = a / b + 1 := by unfold even; split <;> simp
theorem even_two {a b : Int} (hb : 0 < b) : (a - a / b * b < b - (a - a / b * b) → even a b = a / b) ∧ (b - (a - a / b * b) < a - a / b * b → even a b = a / b + 1) ∧
    (a - a / b * b = b - (a - a / b * b) → even a b % 2 = 0) := by
  unfold even
  generalize a / b = q
  generalize q * b = n
  refine ⟨fun h => ?_, fun h => ?_, fun h => ?_⟩
  · rw [if_neg (by omega)]
  · rw [if_pos (.inl h)]
  · split <;> omega
theorem up_cases {a b : Int} (hb : 0 < b) : (a - a / b * b = 0 ∧ up a b = a / b) ∨ (0 < a - a / b * b ∧ up a b = a / b + 1) := by
  have h1 := dn_bd (a := a) hb
  by_cases h : a - a / b * b = 0
  · exact .inl ⟨h, up_eq hb (by omega) (by omega)⟩
  · refine .inr ⟨by omega, up_eq hb ?_ ?_⟩
    · rw [Int.add_mul]; omega
    · rw [Int.add_mul]; omega
theorem rnd_in {a b w : Int} (hb : 0 < b) (hw : wayb w = true) : rnd a b w = a / b ∨ rnd a b w = up a b := by
  unfold rnd
  split
  · exact .inl rfl
  split
  · exact .inr rfl
  split
  · split
    · exact .inr rfl
    · exact .inl rfl
  · have h1 := dn_bd (a := a) hb
    have h2 := even_two (a := a) hb
    rcases up_cases (a := a) hb with ⟨h3, h4⟩ | ⟨h3, h4⟩
    · exact .inl (h2.1 (by omega))
    · rcases even_in a b with h5 | h5
      · exact .inl h5
      · exact .inr (by rw [h4, h5])
/-- Turned about 0, rounding is turned about: down for up. -/
def turned (w : Int) : Int := if w = 1 then 2 else if w = 2 then 1 else w
theorem even_neg {a b : Int} (hb : 0 < b) : even (-a) b = -(even a b) := by
  have h1 := dn_bd (a := a) hb
  have h2 := even_two (a := a) hb
  have g2 := even_two (a := -a) hb
  have e1 : (-a) / b = -(up a b) := by rw [neg_up]
  rcases up_cases (a := a) hb with ⟨h3, h4⟩ | ⟨h3, h4⟩
  · rw [e1, h4, Int.neg_mul] at g2
    rw [g2.1 (by omega), h2.1 (by omega)]
  · rw [e1, h4, Int.neg_mul, Int.add_mul, Int.one_mul] at g2
    generalize a / b * b = n at *
    by_cases c1 : a - n < b - (a - n)
    · rw [h2.1 c1, g2.2.1 (by omega)]; omega
    · by_cases c2 : b - (a - n) < a - n
      · rw [h2.2.1 c2, g2.1 (by omega)]
      · have c3 := h2.2.2 (by omega)
        have c4 := g2.2.2 (by omega)
        have c5 := even_in a b
        have c6 := even_in (-a) b
        rw [e1, h4] at c6
        omega
theorem rnd_neg {a b w : Int} (hb : 0 < b) (hw : wayb w = true) : rnd (-a) b (turned w) = -(rnd a b w) := by
  have k := wayb_true.mp hw
  unfold turned
  by_cases w1 : w = 1
  · subst w1; rw [if_pos rfl, rnd_one, rnd_two, up_neg]
  by_cases w2 : w = 2
  · subst w2; rw [if_neg (by decide), if_pos rfl, rnd_one, rnd_two, neg_up]
  rw [if_neg w1, if_neg w2]
  by_cases w3 : w = 3
  · subst w3; rw [rnd_three, rnd_three]
    by_cases c : a < 0
    · rw [if_neg (by omega), if_pos c, neg_up]
    · by_cases c0 : a = 0
      · subst c0; simp [up]
      · rw [if_pos (by omega), if_neg c, up_neg]
  · obtain rfl : w = 4 := by omega
    rw [rnd_four, rnd_four, even_neg hb]
theorem even_mono {a c b : Int} (hb : 0 < b) (h : a ≤ c) : even a b ≤ even c b := by
  have h1 := dn_bd (a := a) hb
  have h2 := even_two (a := a) hb
  have g1 := dn_bd (a := c) hb
  have g2 := even_two (a := c) hb
  have m := dn_mono hb h
  have i1 := even_in a b
  have i2 := even_in c b
  by_cases e : a / b = c / b
  · rw [← e] at g1 g2 i2
    generalize a / b * b = n at *
    by_cases c1 : a - n < b - (a - n)
    · have := h2.1 c1; omega
    · by_cases c2 : b - (c - n) < c - n
      · have := g2.2.1 c2; omega
      · have : a = c := by omega
        subst this
        omega
  · omega
theorem rnd_mono {a c b w : Int} (hb : 0 < b) (hw : wayb w = true) (h : a ≤ c) : rnd a b w ≤ rnd c b w := by
  have k := wayb_true.mp hw
  by_cases w1 : w = 1
  · subst w1; rw [rnd_one, rnd_one]; exact dn_mono hb h
  by_cases w2 : w = 2
  · subst w2; rw [rnd_two, rnd_two]; exact up_mono hb h
  by_cases w3 : w = 3
  · subst w3; rw [rnd_three, rnd_three]
    by_cases c1 : a < 0
    · rw [if_pos c1]
      by_cases c2 : c < 0
      · rw [if_pos c2]; exact up_mono hb h
      · rw [if_neg c2]
        have := (dn_abs (a := c) hb).1 (by omega)
        have := (up_le (a := a) (b := b) (q := 0) hb).mpr (by omega)
        omega
    · rw [if_neg c1, if_neg (by omega)]; exact dn_mono hb h
  · obtain rfl : w = 4 := by omega
    rw [rnd_four, rnd_four]; exact even_mono hb h
theorem rnd_whole {a w : Int} (hw : wayb w = true) : rnd a 1 w = a := by
  have k := wayb_true.mp hw
  have e1 : up a 1 = a := by unfold up; omega
  have e2 : a / 1 = a := by omega
  by_cases w1 : w = 1
  · subst w1; rw [rnd_one, e2]
  by_cases w2 : w = 2
  · subst w2; rw [rnd_two, e1]
  by_cases w3 : w = 3
  · subst w3; rw [rnd_three, e1, e2]; split <;> rfl
  · obtain rfl : w = 4 := by omega
    rw [rnd_four]
    have := (even_two (a := a) (b := 1) (by omega)).1 (by rw [e2]; omega)
    rw [this, e2]

theorem numDown_in {a b x : Int} (e : numDown a b = (x, true)) : divb a b = true ∧ x = a / b := by
  unfold numDown at e
  split at e
  · simp only [Prod.mk.injEq] at e; exact ⟨by assumption, e.1.symm⟩
  · simp at e
theorem numUp_in {a b x : Int} (e : numUp a b = (x, true)) : divb a b = true ∧ x = up a b := by
  unfold numUp at e
  split at e
  · simp only [Prod.mk.injEq] at e; exact ⟨by assumption, e.1.symm⟩
  · simp at e
theorem numRoot_in {a x : Int} (e : numRoot a = (x, true)) : rootb a = true ∧ x = isq a := by
  unfold numRoot at e
  split at e
  · simp only [Prod.mk.injEq] at e; exact ⟨by assumption, e.1.symm⟩
  · simp at e
theorem numDown_mk {a b : Int} (c : divb a b = true) : numDown a b = (a / b, true) := by unfold numDown; rw [if_pos c]
theorem numUp_mk {a b : Int} (c : divb a b = true) : numUp a b = (up a b, true) := by unfold numUp; rw [if_pos c]
theorem numRound_mk {a b w : Int} (c : divb a b = true) (c2 : wayb w = true) : numRound a b w = (rnd a b w, true) := by unfold numRound; rw [c, c2]; rfl
theorem divb_neg {a b : Int} (c : divb a b = true) : divb (-a) b = true := by have := divb_true.mp c; exact divb_true.mpr (by omega)
theorem turned_way {w : Int} (c : wayb w = true) : wayb (turned w) = true := by
  have := wayb_true.mp c
  unfold turned
  exact wayb_true.mpr (by omega)
theorem rnd_bd {a b w : Int} (c : divb a b = true) (hw : wayb w = true) : -1152921504606846976 ≤ rnd a b w ∧ rnd a b w ≤ 1152921504606846976 := by
  have k := divb_true.mp c
  have h1 := dn_abs (a := a) (show 0 < b by omega)
  have h2 := dn_abs (a := -a) (show 0 < b by omega)
  rcases rnd_in (a := a) (show 0 < b by omega) hw with e | e
  · rw [e]; omega
  · rw [e]; unfold up; omega
theorem tmod_zero (a b : Int) : Int.tmod a b = 0 ↔ a % b = 0 :=
  ⟨fun h => Int.emod_eq_zero_of_dvd (Int.dvd_of_tmod_eq_zero h), fun h => Int.tmod_eq_zero_of_dvd (Int.dvd_of_emod_eq_zero h)⟩
/-- A number is in a span just if its least span is. -/
theorem has_within {l h a b p q : Int} (e : spanOf a b = (p, q, true)) : spanHas l h a b = spanWithin p q l h := by
  obtain ⟨c1, rfl, rfl, c2⟩ := spanOf_in e
  have k := ratb_true.mp c1
  rw [Bool.eq_iff_iff, has_true, within_true, c1, c2]
  constructor
  · rintro ⟨h1, _, h3, h4⟩
    exact ⟨rfl, h1, (le_dn (by omega)).mpr h3, (up_le (by omega)).mpr h4⟩
  · rintro ⟨_, h1, h3, h4⟩
    exact ⟨h1, rfl, (le_dn (by omega)).mp h3, (up_le (by omega)).mp h4⟩
theorem of_neg {a b p q : Int} (e : spanOf a b = (p, q, true)) : spanOf (-a) b = (-q, -p, true) := by
  obtain ⟨c1, rfl, rfl, c2⟩ := spanOf_in e
  have k := ratb_true.mp c1
  have c3 : ratb (-a) b = true := ratb_true.mpr (by omega)
  have e1 : -a * 1000000000 / b = -(up (a * 1000000000) b) := by rw [Int.neg_mul, neg_up]
  have e2 : up (-a * 1000000000) b = -(a * 1000000000 / b) := by rw [Int.neg_mul, up_neg]
  unfold spanOf
  rw [if_pos c3, e1, e2, told_pos (okb_neg c2)]
theorem within_self (l h : Int) : spanWithin l h l h = okb l h := by
  rw [Bool.eq_iff_iff, within_true]
  exact ⟨fun x => x.1, fun x => ⟨x, x, by omega, by omega⟩⟩
theorem meet_has {l h l' h' p q a b : Int} (e : spanMeet l h l' h' = (p, q, true)) : spanHas p q a b = (spanHas l h a b && spanHas l' h' a b) := by
  obtain ⟨c1, c2, rfl, rfl, c3⟩ := spanMeet_in e
  rw [Bool.eq_iff_iff, Bool.and_eq_true, has_true, has_true, has_true, c1, c2, c3]
  by_cases hb : ratb a b = true
  · have k := ratb_true.mp hb
    have m1 := mx_in l l'
    have m2 := mn_in h h'
    have f1 : l * b ≤ mx l l' * b := Int.mul_le_mul_of_nonneg_right m1.1 (by omega)
    have f2 : l' * b ≤ mx l l' * b := Int.mul_le_mul_of_nonneg_right m1.2.1 (by omega)
    have f3 : mn h h' * b ≤ h * b := Int.mul_le_mul_of_nonneg_right m2.1 (by omega)
    have f4 : mn h h' * b ≤ h' * b := Int.mul_le_mul_of_nonneg_right m2.2.1 (by omega)
    constructor
    · rintro ⟨_, _, h3, h4⟩
      exact ⟨⟨rfl, hb, by omega, by omega⟩, rfl, hb, by omega, by omega⟩
    · rintro ⟨⟨_, _, h3, h4⟩, _, _, h5, h6⟩
      refine ⟨rfl, hb, ?_, ?_⟩
      · rcases m1.2.2 with e | e <;> rw [e] <;> assumption
      · rcases m2.2.2 with e | e <;> rw [e] <;> assumption
  · constructor
    · rintro ⟨_, h2, _⟩; exact absurd h2 hb
    · rintro ⟨⟨_, h2, _⟩, _⟩; exact absurd h2 hb
theorem meet_none {l h l' h' p q a b : Int} (c1 : okb l h = true) (c2 : okb l' h' = true) (e : spanMeet l h l' h' = (p, q, false)) : (spanHas l h a b && spanHas l' h' a b) = false := by
  have k1 := okb_true.mp c1
  have k2 := okb_true.mp c2
  rw [← Bool.not_eq_true, Bool.and_eq_true, has_true, has_true]
  rintro ⟨⟨_, hb, h3, h4⟩, _, _, h5, h6⟩
  have k := ratb_true.mp hb
  have m1 := mx_in l l'
  have m2 := mn_in h h'
  by_cases c3 : okb (mx l l') (mn h h') = true
  · rw [spanMeet_mk c1 c2 c3] at e; simp at e
  · apply c3
    have f : mx l l' ≤ mn h h' := by
      have g1 : mx l l' * b ≤ a * 1000000000 := by rcases m1.2.2 with e | e <;> rw [e] <;> assumption
      have g2 : a * 1000000000 ≤ mn h h' * b := by rcases m2.2.2 with e | e <;> rw [e] <;> assumption
      exact Int.le_of_mul_le_mul_right (Int.le_trans g1 g2) (show 0 < b by omega)
    exact okb_true.mpr (by omega)
end Go.Proofs.Ytjhlkdmhlgghbaa.Math
