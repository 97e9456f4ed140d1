/- Plain laws of whole numbers: wrap-round, floor and ceiling of a quotient, the root by its square, bounds of products. No program in sight. -/
import Derived.Test.YtjhlkdmhlgghbaaWMore
import Derived.RowKit
import Derived.Laws.BitsLemmas
namespace Go.Proofs.Ytjhlkdmhlgghbaa.Math
open Go.RowKit Go.Proofs.YtjhlkdmhlgghbaaW.PrintWords

/-- A number that fits into Go's int. -/
def I64 (x : Int) : Prop := -9223372036854775808 ≤ x ∧ x ≤ 9223372036854775807
theorem i64_of {x : Int} (h : (Lit.int .i64 x).wf = true) : I64 x := by
  simp [Lit.wf, IntKind.bits, IntKind.signed, IntKind.min, IntKind.max] at h
  unfold I64; omega
theorem wrap_id {x : Int} (h0 : -9223372036854775808 ≤ x) (h1 : x ≤ 9223372036854775807) : wrap64 x = x := by unfold wrap64; omega
theorem wrap_i64 (x : Int) : I64 (wrap64 x) := by unfold I64 wrap64; omega

theorem more {α : Type} {g : Nat → Option α} (h : ∀ k, LeO (g k) (g (k + 1))) {k : Nat} {r : α} (e : g k = some r) (n : Nat) : g (k + n) = some r := by
  induction n with
  | zero => exact e
  | succ n ih => exact h (k + n) r ih

/-! ### quotients -/
theorem le_dn {a b q : Int} (hb : 0 < b) : q ≤ a / b ↔ q * b ≤ a := Int.le_ediv_iff_mul_le hb
theorem dn_lt {a b q : Int} (hb : 0 < b) : a / b < q ↔ a < q * b := Int.ediv_lt_iff_lt_mul hb
theorem dn_bd {a b : Int} (hb : 0 < b) : a / b * b ≤ a ∧ a < a / b * b + b := by
  have h1 := (le_dn (a := a) hb).mp (Int.le_refl (a / b))
  have h2 := (dn_lt (a := a) (q := a / b + 1) hb).mp (by omega)
  rw [Int.add_mul] at h2
  omega
theorem dn_eq {a b q : Int} (hb : 0 < b) (h0 : q * b ≤ a) (h1 : a < q * b + b) : a / b = q := by
  have h2 := (le_dn hb).mpr h0
  have h3 := (dn_lt (a := a) (q := q + 1) hb).mpr (by rw [Int.add_mul]; omega)
  omega
/-- A quotient, rounded up. -/
def up (a b : Int) : Int := -((-a) / b)
theorem up_le {a b q : Int} (hb : 0 < b) : up a b ≤ q ↔ a ≤ q * b := by
  unfold up
  have h := le_dn (a := -a) (q := -q) hb
  rw [Int.neg_mul] at h
  omega
theorem lt_up {a b q : Int} (hb : 0 < b) : q < up a b ↔ q * b < a := by
  have h := up_le (a := a) (q := q) hb
  omega
theorem up_bd {a b : Int} (hb : 0 < b) : a ≤ up a b * b ∧ up a b * b < a + b := by
  have h1 := (up_le (a := a) hb).mp (Int.le_refl (up a b))
  have h2 := (lt_up (a := a) (q := up a b - 1) hb).mp (by omega)
  rw [Int.sub_mul] at h2
  omega
theorem up_eq {a b q : Int} (hb : 0 < b) (h0 : a ≤ q * b) (h1 : q * b < a + b) : up a b = q := by
  have h2 := (up_le hb).mpr h0
  have h3 := (lt_up (a := a) (q := q - 1) hb).mpr (by rw [Int.sub_mul]; omega)
  omega
theorem up_neg (a b : Int) : up (-a) b = -(a / b) := by unfold up; rw [Int.neg_neg]
theorem neg_up (a b : Int) : -(up a b) = (-a) / b := by unfold up; rw [Int.neg_neg]
theorem dn_mono {a a' b : Int} (hb : 0 < b) (h : a ≤ a') : a / b ≤ a' / b := Int.ediv_le_ediv hb h
theorem up_mono {a a' b : Int} (hb : 0 < b) (h : a ≤ a') : up a b ≤ up a' b := by
  unfold up; have := dn_mono (a := -a') (a' := -a) hb (by omega); omega
theorem dn_le_up {a b : Int} (hb : 0 < b) : a / b ≤ up a b ∧ up a b ≤ a / b + 1 := by
  have h1 := dn_bd (a := a) hb
  refine ⟨?_, (up_le hb).mpr (by rw [Int.add_mul]; omega)⟩
  have h2 := up_bd (a := a) hb
  have h3 : ¬ up a b < a / b := by
    intro h
    have := (lt_up (a := -a) (b := b) (q := -(a / b)) hb)
    have h4 := (le_dn (a := a) (q := up a b + 1) hb).mp (by omega)
    rw [Int.add_mul] at h4
    omega
  omega
theorem up_eq_dn {a b : Int} (hb : 0 < b) : up a b = a / b ↔ a % b = 0 := by
  have h1 := Int.mul_ediv_add_emod a b
  have h2 := Int.emod_nonneg a (show b ≠ 0 by omega)
  have h3 := Int.emod_lt_of_pos a hb
  rw [Int.mul_comm] at h1
  constructor
  · intro h
    have := up_bd (a := a) hb
    rw [h] at this
    omega
  · intro h
    exact up_eq hb (by omega) (by omega)
theorem dn_abs {a b : Int} (hb : 0 < b) : (0 ≤ a → 0 ≤ a / b ∧ a / b ≤ a) ∧ (a < 0 → a ≤ a / b ∧ a / b < 0) := by
  constructor
  · intro h
    refine ⟨Int.ediv_nonneg h (by omega), Int.ediv_le_self _ h⟩
  · intro h
    refine ⟨(le_dn hb).mpr ?_, (dn_lt hb).mpr (by omega)⟩
    have := Int.mul_le_mul_of_nonneg_left (show (1 : Int) ≤ b by omega) (show 0 ≤ -a by omega)
    rw [Int.mul_one, Int.neg_mul] at this
    omega
/-- Go's quotient and rest, by one above 0. -/
theorem tdiv_pos {a b : Int} (h : 0 ≤ a) : Int.tdiv a b = a / b := Int.tdiv_eq_ediv_of_nonneg h
theorem tdiv_neg {a b : Int} : Int.tdiv (-a) b = -(Int.tdiv a b) := Int.neg_tdiv a b
theorem tdiv_up {a b : Int} (h : a ≤ 0) : Int.tdiv a b = up a b := by
  have e : a = -(-a) := by omega
  rw [e, tdiv_neg, tdiv_pos (by omega)]
  unfold up
  rw [Int.neg_neg]
theorem tmod_val (a b : Int) : Int.tmod a b = a - Int.tdiv a b * b := by
  have := Int.mul_tdiv_add_tmod a b
  rw [Int.mul_comm] at this
  omega
/-- Go's way of rounding down. -/
theorem down_val {a b : Int} (hb : 0 < b) : (if Int.tmod a b < 0 then Int.tdiv a b - 1 else Int.tdiv a b) = a / b := by
  rw [tmod_val]
  by_cases h : 0 ≤ a
  · rw [tdiv_pos h, if_neg]
    have := dn_bd (a := a) hb
    omega
  · rw [tdiv_up (by omega)]
    have h1 := up_bd (a := a) hb
    symm
    split
    · refine dn_eq hb ?_ ?_
      · rw [Int.sub_mul]; omega
      · rw [Int.sub_mul]; omega
    · exact dn_eq hb (by omega) (by omega)
theorem tdiv_bd {a b m : Int} (hb : 0 < b) (h0 : -m ≤ a) (h1 : a ≤ m) : -m ≤ Int.tdiv a b ∧ Int.tdiv a b ≤ m := by
  by_cases h : 0 ≤ a
  · rw [tdiv_pos h]; have := (dn_abs (a := a) hb).1 h; omega
  · rw [tdiv_up (by omega)]; unfold up; have := (dn_abs (a := -a) hb).1 (by omega); omega
theorem tmod_two (q : Int) : Int.tmod q 2 = 0 ↔ q % 2 = 0 := by
  rw [tmod_val]
  by_cases h : 0 ≤ q
  · rw [tdiv_pos h]; omega
  · rw [tdiv_up (by omega)]; unfold up; omega
theorem ceil_val {a b : Int} (hb : 0 < b) : -((-a + b - 1) / b) = a / b := by
  symm
  refine dn_eq hb ?_ ?_
  · rw [Int.neg_mul]; have := dn_bd (a := -a + b - 1) hb; omega
  · rw [Int.neg_mul]; have := dn_bd (a := -a + b - 1) hb; omega

/-! ### products -/
theorem mul_bd {x y m n : Int} (h0 : -m ≤ x) (h1 : x ≤ m) (h2 : -n ≤ y) (h3 : y ≤ n) : -(m * n) ≤ x * y ∧ x * y ≤ m * n := by
  have e : (x * y).natAbs ≤ (m * n).natAbs := by
    rw [Int.natAbs_mul, Int.natAbs_mul]
    exact Nat.mul_le_mul (by omega) (by omega)
  have e2 : 0 ≤ m * n := Int.mul_nonneg (by omega) (by omega)
  omega
/-- A product with a number between two lies between their products. -/
theorem mul_mid {l p h q : Int} (h1 : l ≤ p) (h2 : p ≤ h) : (l * q ≤ p * q ∧ p * q ≤ h * q) ∨ (h * q ≤ p * q ∧ p * q ≤ l * q) := by
  by_cases hq : 0 ≤ q
  · exact .inl ⟨Int.mul_le_mul_of_nonneg_right h1 hq, Int.mul_le_mul_of_nonneg_right h2 hq⟩
  · exact .inr ⟨Int.mul_le_mul_of_nonpos_right h2 (by omega), Int.mul_le_mul_of_nonpos_right h1 (by omega)⟩
def lo4 (a b c d : Int) : Int := mn (mn a b) (mn c d)
def hi4 (a b c d : Int) : Int := mx (mx a b) (mx c d)
theorem lo4_in (a b c d : Int) : lo4 a b c d ≤ a ∧ lo4 a b c d ≤ b ∧ lo4 a b c d ≤ c ∧ lo4 a b c d ≤ d ∧ (lo4 a b c d = a ∨ lo4 a b c d = b ∨ lo4 a b c d = c ∨ lo4 a b c d = d) := by
  unfold lo4 mn; omega
theorem hi4_in (a b c d : Int) : a ≤ hi4 a b c d ∧ b ≤ hi4 a b c d ∧ c ≤ hi4 a b c d ∧ d ≤ hi4 a b c d ∧ (hi4 a b c d = a ∨ hi4 a b c d = b ∨ hi4 a b c d = c ∨ hi4 a b c d = d) := by
  unfold hi4 mx; omega
theorem lo4_chain (a b c d : Int) : mn (mn (mn a b) c) d = lo4 a b c d := by unfold lo4 mn; omega
theorem hi4_chain (a b c d : Int) : mx (mx (mx a b) c) d = hi4 a b c d := by unfold hi4 mx; omega
theorem lo4_fold (a b c d : Int) : mn (mn a b) (mn c d) = lo4 a b c d := rfl
theorem hi4_fold (a b c d : Int) : mx (mx a b) (mx c d) = hi4 a b c d := rfl
theorem mn_in (a b : Int) : mn a b ≤ a ∧ mn a b ≤ b ∧ (mn a b = a ∨ mn a b = b) := by unfold mn; omega
theorem mx_in (a b : Int) : a ≤ mx a b ∧ b ≤ mx a b ∧ (mx a b = a ∨ mx a b = b) := by unfold mx; omega
/-- The product of two numbers lies between the least and the greatest product of ends. -/
theorem mul_four {a p b c q d : Int} (h1 : a ≤ p) (h2 : p ≤ b) (h3 : c ≤ q) (h4 : q ≤ d) :
    lo4 (a * c) (a * d) (b * c) (b * d) ≤ p * q ∧ p * q ≤ hi4 (a * c) (a * d) (b * c) (b * d) := by
  have hl := lo4_in (a * c) (a * d) (b * c) (b * d)
  have hh := hi4_in (a * c) (a * d) (b * c) (b * d)
  have e1 := mul_mid (q := q) h1 h2
  have e2 := mul_mid (q := a) h3 h4
  have e3 := mul_mid (q := b) h3 h4
  rw [Int.mul_comm c a, Int.mul_comm q a, Int.mul_comm d a] at e2
  rw [Int.mul_comm c b, Int.mul_comm q b, Int.mul_comm d b] at e3
  omega

/-! ### the root -/
theorem root_is (n : Nat) : ∃ r : Nat, r * r ≤ n ∧ n < (r + 1) * (r + 1) := by
  induction n with
  | zero => exact ⟨0, by omega, by omega⟩
  | succ n ih =>
    obtain ⟨r, h1, h2⟩ := ih
    by_cases h : n + 1 < (r + 1) * (r + 1)
    · exact ⟨r, by omega, h⟩
    · refine ⟨r + 1, by omega, ?_⟩
      have e : (r + 1 + 1) * (r + 1 + 1) = (r + 1) * (r + 1) + (r + 1) + (r + 1) + 1 := by
        rw [Nat.add_mul, Nat.mul_add]; omega
      omega
/-- The greatest whole number whose square is not more. -/
noncomputable def isq (a : Int) : Int := (Classical.choose (root_is a.toNat) : Nat)
theorem isq_is {a : Int} (h : 0 ≤ a) : 0 ≤ isq a ∧ isq a * isq a ≤ a ∧ a < (isq a + 1) * (isq a + 1) := by
  obtain ⟨h1, h2⟩ := Classical.choose_spec (root_is a.toNat)
  have e : ((a.toNat : Nat) : Int) = a := Int.toNat_of_nonneg h
  refine ⟨Int.natCast_nonneg _, ?_, ?_⟩
  · unfold isq
    have h3 : ((Classical.choose (root_is a.toNat) * Classical.choose (root_is a.toNat) : Nat) : Int) ≤ (a.toNat : Int) := by exact_mod_cast h1
    rw [Int.natCast_mul] at h3
    omega
  · unfold isq
    have h3 : ((a.toNat : Nat) : Int) < (((Classical.choose (root_is a.toNat) + 1) * (Classical.choose (root_is a.toNat) + 1) : Nat) : Int) := by exact_mod_cast h2
    rw [Int.natCast_mul, Int.natCast_add] at h3
    simp only [Int.natCast_one] at h3
    omega
theorem sq_mono {x y : Int} (h0 : 0 ≤ x) (h : x ≤ y) : x * x ≤ y * y := Int.mul_le_mul h h h0 (by omega)
theorem sq_lt {x y : Int} (h0 : 0 ≤ y) (h : x * x < y * y) : x < y := by
  apply Decidable.byContradiction
  intro c
  have := sq_mono h0 (show y ≤ x by omega)
  omega
theorem isq_one {a r : Int} (h0 : 0 ≤ r) (h1 : r * r ≤ a) (h2 : a < (r + 1) * (r + 1)) : isq a = r := by
  have ha : 0 ≤ a := Int.le_trans (Int.mul_nonneg h0 h0) h1
  obtain ⟨g0, g1, g2⟩ := isq_is ha
  have e1 : r < isq a + 1 := sq_lt (by omega) (by omega)
  have e2 : isq a < r + 1 := sq_lt (by omega) (by omega)
  omega
theorem isq_mono {a b : Int} (h0 : 0 ≤ a) (h : a ≤ b) : isq a ≤ isq b := by
  obtain ⟨g0, g1, g2⟩ := isq_is h0
  obtain ⟨k0, k1, k2⟩ := isq_is (show 0 ≤ b by omega)
  have : isq a < isq b + 1 := sq_lt (by omega) (by omega)
  omega
theorem isq_le {a m : Int} (h0 : 0 ≤ a) (hm : 0 ≤ m) (h : a < (m + 1) * (m + 1)) : isq a ≤ m := by
  obtain ⟨g0, g1, g2⟩ := isq_is h0
  have : isq a < m + 1 := sq_lt (by omega) (by omega)
  omega
/-- The least whole number whose square is not less. -/
noncomputable def rup (a : Int) : Int := if isq a * isq a < a then isq a + 1 else isq a
theorem rup_is {a : Int} (h : 0 ≤ a) : isq a ≤ rup a ∧ rup a ≤ isq a + 1 ∧ a ≤ rup a * rup a := by
  obtain ⟨g0, g1, g2⟩ := isq_is h
  unfold rup
  split
  · exact ⟨by omega, by omega, by omega⟩
  · exact ⟨by omega, by omega, by omega⟩
theorem rup_le {a r : Int} (h0 : 0 ≤ a) (hr : 0 ≤ r) (h : a ≤ r * r) : rup a ≤ r := by
  obtain ⟨g0, g1, g2⟩ := isq_is h0
  unfold rup
  split
  · have : isq a < r := sq_lt hr (by omega)
    omega
  · have : isq a < r + 1 := sq_lt (by omega) (by
      have e : (r + 1) * (r + 1) = r * r + r + r + 1 := by rw [Int.add_mul, Int.mul_add]; omega
      omega)
    omega
theorem rup_mono {a b : Int} (h0 : 0 ≤ a) (h : a ≤ b) : rup a ≤ rup b := by
  obtain ⟨k0, k1, k2⟩ := rup_is (show 0 ≤ b by omega)
  obtain ⟨g0, g1, g2⟩ := isq_is (show 0 ≤ b by omega)
  exact rup_le h0 (by omega) (by omega)

/-! ### bits -/
theorem xor_nonneg {x y : Int} (h0 : 0 ≤ x) (h1 : x < 4611686018427387904) (h2 : 0 ≤ y) (h3 : y < 4611686018427387904) : 0 ≤ Go.bits .xor .i64 x y ∧ Go.bits .xor .i64 x y < 4611686018427387904 := by
  obtain ⟨a, rfl⟩ := Int.eq_ofNat_of_zero_le h0
  obtain ⟨b, rfl⟩ := Int.eq_ofNat_of_zero_le h2
  have ha : a < 2 ^ 62 := by have : (2 : Nat) ^ 62 = 4611686018427387904 := by decide
                             omega
  have hb : b < 2 ^ 62 := by have : (2 : Nat) ^ 62 = 4611686018427387904 := by decide
                             omega
  have hx := Nat.xor_lt_two_pow ha hb
  have e62 : (2 : Nat) ^ 62 = 4611686018427387904 := by decide
  have e64 : (2 : Nat) ^ 64 = 18446744073709551616 := by decide
  have ea : a % 2 ^ 64 = a := Nat.mod_eq_of_lt (by omega)
  have eb : b % 2 ^ 64 = b := Nat.mod_eq_of_lt (by omega)
  have ek : IntKind.i64.bits = 64 := rfl
  have e : Go.bits .xor .i64 (a : Int) (b : Int) = ((a ^^^ b : Nat) : Int) := by
    simp only [Go.bits, BitVec.ofInt_natCast, BitVec.toNat_xor, BitVec.toNat_ofNat, ek, ea, eb]
    rw [IntKind.wrap_i64]
    omega
  rw [e]
  omega
end Go.Proofs.Ytjhlkdmhlgghbaa.Math
