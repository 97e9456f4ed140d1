/- The plain models of the program's functions: spans, quotients, roots; and the plain laws over them. No program in sight. -/
import Derived.Test.YtanmfmfifhcbkaaMath
namespace Go.Proofs.Ytanmfmfifhcbkaa.Math
open Go.RowKit Go.Proofs.YtanmfmfifhcbkaaW.PrintWords

def okb (l h : Int) : Bool := decide (-1073000000 ≤ l ∧ l ≤ h ∧ h ≤ 1073000000)
theorem okb_true {l h : Int} : okb l h = true ↔ (-1073000000 ≤ l ∧ l ≤ h ∧ h ≤ 1073000000) := by unfold okb; simp
theorem okb_false {l h : Int} : okb l h = false ↔ ¬ (-1073000000 ≤ l ∧ l ≤ h ∧ h ≤ 1073000000) := by unfold okb; simp
def told (l h : Int) : Int × Int × Bool := if okb l h = true then (l, h, true) else (0, 0, false)
theorem told_pos {l h : Int} (c : okb l h = true) : told l h = (l, h, true) := by unfold told; rw [if_pos c]
theorem told_neg {l h : Int} (c : okb l h = false) : told l h = (0, 0, false) := by unfold told; rw [if_neg (by simp [c])]
theorem told_in {l h x y : Int} (e : told l h = (x, y, true)) : l = x ∧ h = y ∧ okb x y = true := by
  unfold told at e
  split at e
  · simp only [Prod.mk.injEq] at e; obtain ⟨rfl, rfl, _⟩ := e; exact ⟨rfl, rfl, by assumption⟩
  · simp at e
def ratb (a b : Int) : Bool := decide (-1000000000 ≤ a ∧ a ≤ 1000000000 ∧ 1 ≤ b ∧ b ≤ 1000000000)
theorem ratb_true {a b : Int} : ratb a b = true ↔ (-1000000000 ≤ a ∧ a ≤ 1000000000 ∧ 1 ≤ b ∧ b ≤ 1000000000) := by unfold ratb; simp
theorem ratb_false {a b : Int} : ratb a b = false ↔ ¬ (-1000000000 ≤ a ∧ a ≤ 1000000000 ∧ 1 ≤ b ∧ b ≤ 1000000000) := by unfold ratb; simp
def divb (a b : Int) : Bool := decide (-1152921504606846976 ≤ a ∧ a ≤ 1152921504606846976 ∧ 1 ≤ b ∧ b ≤ 1152921504606846976)
theorem divb_true {a b : Int} : divb a b = true ↔ (-1152921504606846976 ≤ a ∧ a ≤ 1152921504606846976 ∧ 1 ≤ b ∧ b ≤ 1152921504606846976) := by unfold divb; simp
theorem divb_false {a b : Int} : divb a b = false ↔ ¬ (-1152921504606846976 ≤ a ∧ a ≤ 1152921504606846976 ∧ 1 ≤ b ∧ b ≤ 1152921504606846976) := by unfold divb; simp
def even (a b : Int) : Int := if a - a / b * b > b - (a - a / b * b) ∨ a - a / b * b = b - (a - a / b * b) ∧ a / b % 2 ≠ 0 then a / b + 1 else a / b
def rnd (a b w : Int) : Int := if w = 1 then a / b else if w = 2 then up a b else if w = 3 then (if a < 0 then up a b else a / b) else even a b
theorem rnd_one (a b : Int) : rnd a b 1 = a / b := by simp [rnd]
theorem rnd_two (a b : Int) : rnd a b 2 = up a b := by simp [rnd]
theorem rnd_three (a b : Int) : rnd a b 3 = (if a < 0 then up a b else a / b) := by simp [rnd]
theorem rnd_four (a b : Int) : rnd a b 4 = even a b := by simp [rnd]
def wayb (w : Int) : Bool := decide (1 ≤ w ∧ w ≤ 4)
theorem wayb_true {w : Int} : wayb w = true ↔ (1 ≤ w ∧ w ≤ 4) := by unfold wayb; simp
theorem wayb_false {w : Int} : wayb w = false ↔ ¬ (1 ≤ w ∧ w ≤ 4) := by unfold wayb; simp
def numRound (a b w : Int) : Int × Bool := if (divb a b && wayb w) = true then (rnd a b w, true) else (0, false)
def numDown (a b : Int) : Int × Bool := if divb a b = true then (a / b, true) else (0, false)
def numUp (a b : Int) : Int × Bool := if divb a b = true then (up a b, true) else (0, false)
def rootb (a : Int) : Bool := decide (0 ≤ a ∧ a ≤ 1152921504606846976)
theorem rootb_true {a : Int} : rootb a = true ↔ (0 ≤ a ∧ a ≤ 1152921504606846976) := by unfold rootb; simp
theorem rootb_false {a : Int} : rootb a = false ↔ ¬ (0 ≤ a ∧ a ≤ 1152921504606846976) := by unfold rootb; simp
noncomputable def numRoot (a : Int) : Int × Bool := if rootb a = true then (isq a, true) else (0, false)

def spanOf (a b : Int) : Int × Int × Bool := if ratb a b = true then told (a * 1000000000 / b) (up (a * 1000000000) b) else (0, 0, false)
def spanHas (l h a b : Int) : Bool := okb l h && ratb a b && decide (l * b ≤ a * 1000000000) && decide (a * 1000000000 ≤ h * b)
def spanWithin (l h l' h' : Int) : Bool := okb l h && okb l' h' && decide (l' ≤ l) && decide (h ≤ h')
def spanHull (l h l' h' : Int) : Int × Int := if (okb l h && okb l' h') = true then (mn l l', mx h h') else (0, 0)
def spanMeet (l h l' h' : Int) : Int × Int × Bool := if (okb l h && okb l' h') = true then told (mx l l') (mn h h') else (0, 0, false)
def spanNeg (l h : Int) : Int × Int := if okb l h = true then (-h, -l) else (0, 0)
def spanAdd (l h l' h' : Int) : Int × Int × Bool := if (okb l h && okb l' h') = true then told (l + l') (h + h') else (0, 0, false)
def spanSub (l h l' h' : Int) : Int × Int × Bool := if (okb l h && okb l' h') = true then told (l - h') (h - l') else (0, 0, false)
def spanMul (l h l' h' : Int) : Int × Int × Bool :=
  if (okb l h && okb l' h') = true then told (lo4 (l * l') (l * h') (h * l') (h * h') / 1000000000) (up (hi4 (l * l') (l * h') (h * l') (h * h')) 1000000000) else (0, 0, false)
noncomputable def spanRoot (l h : Int) : Int × Int × Bool := if (okb l h && decide (0 ≤ l)) = true then told (isq (l * 1000000000)) (rup (h * 1000000000)) else (0, 0, false)
/-- A span divided by one above 0. -/
def divPos (l h l' h' : Int) : Int × Int × Bool :=
  told (mn (l * 1000000000 / l') (l * 1000000000 / h')) (mx (up (h * 1000000000) l') (up (h * 1000000000) h'))
def spanDiv (l h l' h' : Int) : Int × Int × Bool :=
  if (okb l h && okb l' h' && !decide (l' ≤ 0 ∧ 0 ≤ h')) = true then (if h' < 0 then divPos (-h) (-l) (-h') (-l') else divPos l h l' h') else (0, 0, false)
end Go.Proofs.Ytanmfmfifhcbkaa.Math
