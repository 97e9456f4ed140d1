/-
  No cell of these rows narrows 'for every input' (looked for: loops, veiled, ifaces, maps, wideKeys, modest, calm, conditions, laid).
  DERIVED. THE GIVEN ROWS OF THIS SEAT. 12 by the template 'for every input the law returns true; each argument reads behind the call as it read before'; 0 by the template 'total and deterministic' (their statements: YtbdlfopkdplgcaaTotals.lean).
  GIVEN WITH THE SEED: the statements are not yours to turn. If you find one false, say at which input.
  Laid BY PROGRAM, IN A SANDBOX (cutbox-rows.mjs): the forced cells as the released guide's own fill.sh prints them over the translation 2a12ba36a01a51f6… (all of the seat's roots in one cut). By AI agents, Wed Nov 11 2026. No macro, syntax, notation, axiom, sorry.
-/
import Derived.Test.YtbdlfopkdplgcaaChecked
import GoSem.Claim
import GoSem.ClaimJoined
import GoSem.ClaimMapViews
import Derived.JoinedTies
import Derived.KernelRfl
namespace Go.Proofs.Ytbdlfopkdplgcaa
/- THE CELL 'sum', in the pinned program and in every row, IS THE sha256 OF THE DUMP (.gsa) THAT YtbdlfopkdplgcaaProg.lean LOADS. Nothing in Lean hashes anything: it is a label: what it is worth is what the hold of that sum in a sandbox is worth. -/
noncomputable def Try.pinned : Pinned := { name := "ytbdlfopkdplgcaa", sum := "2a12ba36a01a51f6ab6ddc03efc5ef72de7d030d9748388dafff6dad854c9474", checked := Try.checked }
namespace Rows
def none {H : Type} : Left H := { results := [], args := [] }

/-- 'laws.FnNumDown': WHATEVER THE INPUT: true; the input reads as it did. -/
def fnNumDownSpec : ChangeSpec := { name := "fnNumDown", fn := fun _ => fun
  | [d] => { results := [.lit (.bool true)], args := [d] }
  | _ => none }
def fnNumDownRow : OpenClaim := { program := "ytbdlfopkdplgcaa", sum := "2a12ba36a01a51f6ab6ddc03efc5ef72de7d030d9748388dafff6dad854c9474", func := "loop.example/alidade/laws.FnNumDown", spec := "fnNumDown", apart := false }
def FnNumDownSaid : Prop := fnNumDownRow.holds Try.pinned (OpenSpec.ofChange fnNumDownSpec)

/-- ITS FALSE NEIGHBOUR: 'it returns false'. Refute it at one input. -/
def fnNumDownWrong : ChangeSpec := { name := "fnNumDown", fn := fun _ => fun
  | [d] => { results := [.lit (.bool false)], args := [d] }
  | _ => none }
def FnNumDownWrongFalsely : Prop := fnNumDownRow.holds Try.pinned (OpenSpec.ofChange fnNumDownWrong)

/-- 'laws.FnSpanAdd': WHATEVER THE INPUT: true; the input reads as it did. -/
def fnSpanAddSpec : ChangeSpec := { name := "fnSpanAdd", fn := fun _ => fun
  | [d1, d2] => { results := [.lit (.bool true)], args := [d1, d2] }
  | _ => none }
def fnSpanAddRow : OpenClaim := { program := "ytbdlfopkdplgcaa", sum := "2a12ba36a01a51f6ab6ddc03efc5ef72de7d030d9748388dafff6dad854c9474", func := "loop.example/alidade/laws.FnSpanAdd", spec := "fnSpanAdd", apart := false }
def FnSpanAddSaid : Prop := fnSpanAddRow.holds Try.pinned (OpenSpec.ofChange fnSpanAddSpec)

/-- ITS FALSE NEIGHBOUR: 'it returns false'. Refute it at one input. -/
def fnSpanAddWrong : ChangeSpec := { name := "fnSpanAdd", fn := fun _ => fun
  | [d1, d2] => { results := [.lit (.bool false)], args := [d1, d2] }
  | _ => none }
def FnSpanAddWrongFalsely : Prop := fnSpanAddRow.holds Try.pinned (OpenSpec.ofChange fnSpanAddWrong)

/-- 'laws.FnNumUp': WHATEVER THE INPUT: true; the input reads as it did. -/
def fnNumUpSpec : ChangeSpec := { name := "fnNumUp", fn := fun _ => fun
  | [d] => { results := [.lit (.bool true)], args := [d] }
  | _ => none }
def fnNumUpRow : OpenClaim := { program := "ytbdlfopkdplgcaa", sum := "2a12ba36a01a51f6ab6ddc03efc5ef72de7d030d9748388dafff6dad854c9474", func := "loop.example/alidade/laws.FnNumUp", spec := "fnNumUp", apart := false }
def FnNumUpSaid : Prop := fnNumUpRow.holds Try.pinned (OpenSpec.ofChange fnNumUpSpec)

/-- ITS FALSE NEIGHBOUR: 'it returns false'. Refute it at one input. -/
def fnNumUpWrong : ChangeSpec := { name := "fnNumUp", fn := fun _ => fun
  | [d] => { results := [.lit (.bool false)], args := [d] }
  | _ => none }
def FnNumUpWrongFalsely : Prop := fnNumUpRow.holds Try.pinned (OpenSpec.ofChange fnNumUpWrong)

/-- 'laws.FnSpanOf': WHATEVER THE INPUT: true; the input reads as it did. -/
def fnSpanOfSpec : ChangeSpec := { name := "fnSpanOf", fn := fun _ => fun
  | [d] => { results := [.lit (.bool true)], args := [d] }
  | _ => none }
def fnSpanOfRow : OpenClaim := { program := "ytbdlfopkdplgcaa", sum := "2a12ba36a01a51f6ab6ddc03efc5ef72de7d030d9748388dafff6dad854c9474", func := "loop.example/alidade/laws.FnSpanOf", spec := "fnSpanOf", apart := false }
def FnSpanOfSaid : Prop := fnSpanOfRow.holds Try.pinned (OpenSpec.ofChange fnSpanOfSpec)

/-- ITS FALSE NEIGHBOUR: 'it returns false'. Refute it at one input. -/
def fnSpanOfWrong : ChangeSpec := { name := "fnSpanOf", fn := fun _ => fun
  | [d] => { results := [.lit (.bool false)], args := [d] }
  | _ => none }
def FnSpanOfWrongFalsely : Prop := fnSpanOfRow.holds Try.pinned (OpenSpec.ofChange fnSpanOfWrong)

/-- 'laws.FnSpanOfMore': WHATEVER THE INPUT: true; the input reads as it did. -/
def fnSpanOfMoreSpec : ChangeSpec := { name := "fnSpanOfMore", fn := fun _ => fun
  | [d1, d2] => { results := [.lit (.bool true)], args := [d1, d2] }
  | _ => none }
def fnSpanOfMoreRow : OpenClaim := { program := "ytbdlfopkdplgcaa", sum := "2a12ba36a01a51f6ab6ddc03efc5ef72de7d030d9748388dafff6dad854c9474", func := "loop.example/alidade/laws.FnSpanOfMore", spec := "fnSpanOfMore", apart := false }
def FnSpanOfMoreSaid : Prop := fnSpanOfMoreRow.holds Try.pinned (OpenSpec.ofChange fnSpanOfMoreSpec)

/-- ITS FALSE NEIGHBOUR: 'it returns false'. Refute it at one input. -/
def fnSpanOfMoreWrong : ChangeSpec := { name := "fnSpanOfMore", fn := fun _ => fun
  | [d1, d2] => { results := [.lit (.bool false)], args := [d1, d2] }
  | _ => none }
def FnSpanOfMoreWrongFalsely : Prop := fnSpanOfMoreRow.holds Try.pinned (OpenSpec.ofChange fnSpanOfMoreWrong)

/-- 'laws.FnSpanMeet': WHATEVER THE INPUT: true; the input reads as it did. -/
def fnSpanMeetSpec : ChangeSpec := { name := "fnSpanMeet", fn := fun _ => fun
  | [d1, d2] => { results := [.lit (.bool true)], args := [d1, d2] }
  | _ => none }
def fnSpanMeetRow : OpenClaim := { program := "ytbdlfopkdplgcaa", sum := "2a12ba36a01a51f6ab6ddc03efc5ef72de7d030d9748388dafff6dad854c9474", func := "loop.example/alidade/laws.FnSpanMeet", spec := "fnSpanMeet", apart := false }
def FnSpanMeetSaid : Prop := fnSpanMeetRow.holds Try.pinned (OpenSpec.ofChange fnSpanMeetSpec)

/-- ITS FALSE NEIGHBOUR: 'it returns false'. Refute it at one input. -/
def fnSpanMeetWrong : ChangeSpec := { name := "fnSpanMeet", fn := fun _ => fun
  | [d1, d2] => { results := [.lit (.bool false)], args := [d1, d2] }
  | _ => none }
def FnSpanMeetWrongFalsely : Prop := fnSpanMeetRow.holds Try.pinned (OpenSpec.ofChange fnSpanMeetWrong)

/-- 'laws.FnSpanSub': WHATEVER THE INPUT: true; the input reads as it did. -/
def fnSpanSubSpec : ChangeSpec := { name := "fnSpanSub", fn := fun _ => fun
  | [d1, d2] => { results := [.lit (.bool true)], args := [d1, d2] }
  | _ => none }
def fnSpanSubRow : OpenClaim := { program := "ytbdlfopkdplgcaa", sum := "2a12ba36a01a51f6ab6ddc03efc5ef72de7d030d9748388dafff6dad854c9474", func := "loop.example/alidade/laws.FnSpanSub", spec := "fnSpanSub", apart := false }
def FnSpanSubSaid : Prop := fnSpanSubRow.holds Try.pinned (OpenSpec.ofChange fnSpanSubSpec)

/-- ITS FALSE NEIGHBOUR: 'it returns false'. Refute it at one input. -/
def fnSpanSubWrong : ChangeSpec := { name := "fnSpanSub", fn := fun _ => fun
  | [d1, d2] => { results := [.lit (.bool false)], args := [d1, d2] }
  | _ => none }
def FnSpanSubWrongFalsely : Prop := fnSpanSubRow.holds Try.pinned (OpenSpec.ofChange fnSpanSubWrong)

/-- 'laws.FnSpanMul': WHATEVER THE INPUT: true; the input reads as it did. -/
def fnSpanMulSpec : ChangeSpec := { name := "fnSpanMul", fn := fun _ => fun
  | [d1, d2] => { results := [.lit (.bool true)], args := [d1, d2] }
  | _ => none }
def fnSpanMulRow : OpenClaim := { program := "ytbdlfopkdplgcaa", sum := "2a12ba36a01a51f6ab6ddc03efc5ef72de7d030d9748388dafff6dad854c9474", func := "loop.example/alidade/laws.FnSpanMul", spec := "fnSpanMul", apart := false }
def FnSpanMulSaid : Prop := fnSpanMulRow.holds Try.pinned (OpenSpec.ofChange fnSpanMulSpec)

/-- ITS FALSE NEIGHBOUR: 'it returns false'. Refute it at one input. -/
def fnSpanMulWrong : ChangeSpec := { name := "fnSpanMul", fn := fun _ => fun
  | [d1, d2] => { results := [.lit (.bool false)], args := [d1, d2] }
  | _ => none }
def FnSpanMulWrongFalsely : Prop := fnSpanMulRow.holds Try.pinned (OpenSpec.ofChange fnSpanMulWrong)

/-- 'laws.FnSpanMulNeg': WHATEVER THE INPUT: true; the input reads as it did. -/
def fnSpanMulNegSpec : ChangeSpec := { name := "fnSpanMulNeg", fn := fun _ => fun
  | [d] => { results := [.lit (.bool true)], args := [d] }
  | _ => none }
def fnSpanMulNegRow : OpenClaim := { program := "ytbdlfopkdplgcaa", sum := "2a12ba36a01a51f6ab6ddc03efc5ef72de7d030d9748388dafff6dad854c9474", func := "loop.example/alidade/laws.FnSpanMulNeg", spec := "fnSpanMulNeg", apart := false }
def FnSpanMulNegSaid : Prop := fnSpanMulNegRow.holds Try.pinned (OpenSpec.ofChange fnSpanMulNegSpec)

/-- ITS FALSE NEIGHBOUR: 'it returns false'. Refute it at one input. -/
def fnSpanMulNegWrong : ChangeSpec := { name := "fnSpanMulNeg", fn := fun _ => fun
  | [d] => { results := [.lit (.bool false)], args := [d] }
  | _ => none }
def FnSpanMulNegWrongFalsely : Prop := fnSpanMulNegRow.holds Try.pinned (OpenSpec.ofChange fnSpanMulNegWrong)

/-- 'laws.FnSpanMulIn': WHATEVER THE INPUT: true; the input reads as it did. -/
def fnSpanMulInSpec : ChangeSpec := { name := "fnSpanMulIn", fn := fun _ => fun
  | [d1, d2] => { results := [.lit (.bool true)], args := [d1, d2] }
  | _ => none }
def fnSpanMulInRow : OpenClaim := { program := "ytbdlfopkdplgcaa", sum := "2a12ba36a01a51f6ab6ddc03efc5ef72de7d030d9748388dafff6dad854c9474", func := "loop.example/alidade/laws.FnSpanMulIn", spec := "fnSpanMulIn", apart := false }
def FnSpanMulInSaid : Prop := fnSpanMulInRow.holds Try.pinned (OpenSpec.ofChange fnSpanMulInSpec)

/-- ITS FALSE NEIGHBOUR: 'it returns false'. Refute it at one input. -/
def fnSpanMulInWrong : ChangeSpec := { name := "fnSpanMulIn", fn := fun _ => fun
  | [d1, d2] => { results := [.lit (.bool false)], args := [d1, d2] }
  | _ => none }
def FnSpanMulInWrongFalsely : Prop := fnSpanMulInRow.holds Try.pinned (OpenSpec.ofChange fnSpanMulInWrong)

/-- 'laws.FnNumMore': WHATEVER THE INPUT: true; the input reads as it did. -/
def fnNumMoreSpec : ChangeSpec := { name := "fnNumMore", fn := fun _ => fun
  | [d1, d2] => { results := [.lit (.bool true)], args := [d1, d2] }
  | _ => none }
def fnNumMoreRow : OpenClaim := { program := "ytbdlfopkdplgcaa", sum := "2a12ba36a01a51f6ab6ddc03efc5ef72de7d030d9748388dafff6dad854c9474", func := "loop.example/alidade/laws.FnNumMore", spec := "fnNumMore", apart := false }
def FnNumMoreSaid : Prop := fnNumMoreRow.holds Try.pinned (OpenSpec.ofChange fnNumMoreSpec)

/-- ITS FALSE NEIGHBOUR: 'it returns false'. Refute it at one input. -/
def fnNumMoreWrong : ChangeSpec := { name := "fnNumMore", fn := fun _ => fun
  | [d1, d2] => { results := [.lit (.bool false)], args := [d1, d2] }
  | _ => none }
def FnNumMoreWrongFalsely : Prop := fnNumMoreRow.holds Try.pinned (OpenSpec.ofChange fnNumMoreWrong)

/-- 'laws.FnNumTurn': WHATEVER THE INPUT: true; the input reads as it did. -/
def fnNumTurnSpec : ChangeSpec := { name := "fnNumTurn", fn := fun _ => fun
  | [d] => { results := [.lit (.bool true)], args := [d] }
  | _ => none }
def fnNumTurnRow : OpenClaim := { program := "ytbdlfopkdplgcaa", sum := "2a12ba36a01a51f6ab6ddc03efc5ef72de7d030d9748388dafff6dad854c9474", func := "loop.example/alidade/laws.FnNumTurn", spec := "fnNumTurn", apart := false }
def FnNumTurnSaid : Prop := fnNumTurnRow.holds Try.pinned (OpenSpec.ofChange fnNumTurnSpec)

/-- ITS FALSE NEIGHBOUR: 'it returns false'. Refute it at one input. -/
def fnNumTurnWrong : ChangeSpec := { name := "fnNumTurn", fn := fun _ => fun
  | [d] => { results := [.lit (.bool false)], args := [d] }
  | _ => none }
def FnNumTurnWrongFalsely : Prop := fnNumTurnRow.holds Try.pinned (OpenSpec.ofChange fnNumTurnWrong)

/- THE SECOND FORM. 'bulk': how many values and letters a reading holds, each counted each time it is reached (what is shared counts as often as it is met; a slice's spare places count too). A statement '..UptoSaid' is the law's where the arguments, and the package variables that the reading takes, are together of bulk at most 1048576: NARROWER than '..Said'. Prove '..Said' where nothing that the law and all that it calls make is longer than what came in: it says more and counts as full. Else prove '..UptoSaid'. A law counts once. -/
mutual
def uptoBulk {H : Type} : DataW H → Nat
  | .lit (.string bytes) => bytes.length + 1
  | .lit _ => 1
  | .nil => 1
  | .ptr d => uptoBulk d + 1
  | .slice elems spare => uptoBulkAll elems + uptoBulkAll spare + 1
  | .agg parts => uptoBulkAll parts + 1
  | .iface _ d => uptoBulk d + 1
  | .map entries => uptoBulkEntries entries + 1
  | .held _ => 1
def uptoBulkAll {H : Type} : List (DataW H) → Nat
  | [] => 0
  | d :: r => uptoBulk d + uptoBulkAll r
def uptoBulkEntries {H : Type} : List (Lit × DataW H) → Nat
  | [] => 0
  | x :: r => uptoBulkEntry x + uptoBulkEntries r
def uptoBulkEntry {H : Type} : Lit × DataW H → Nat
  | (.string bytes, d) => bytes.length + uptoBulk d + 1
  | (_, d) => uptoBulk d + 1
 end
def uptoSmall : (H : Type) → List (DataW H) → Bool := fun _ ds => decide (uptoBulkAll ds ≤ 1048576)
def OpenSpec.upto (s : _root_.Go.ChangeSpec) : _root_.Go.OpenSpec := { _root_.Go.OpenSpec.ofChange s with cond := some uptoSmall }

/-- 'laws.FnNumDown', WHERE WHAT IT READS IS OF BULK AT MOST 1048576: true; the input reads as it did. -/
def fnNumDownUptoRow : OpenClaim := { program := "ytbdlfopkdplgcaa", sum := "2a12ba36a01a51f6ab6ddc03efc5ef72de7d030d9748388dafff6dad854c9474", func := "loop.example/alidade/laws.FnNumDown", spec := "fnNumDown", apart := false, narrowed := true }
def FnNumDownUptoSaid : Prop := fnNumDownUptoRow.holds Try.pinned (OpenSpec.upto fnNumDownSpec)

/-- 'laws.FnSpanAdd', WHERE WHAT IT READS IS OF BULK AT MOST 1048576: true; the input reads as it did. -/
def fnSpanAddUptoRow : OpenClaim := { program := "ytbdlfopkdplgcaa", sum := "2a12ba36a01a51f6ab6ddc03efc5ef72de7d030d9748388dafff6dad854c9474", func := "loop.example/alidade/laws.FnSpanAdd", spec := "fnSpanAdd", apart := false, narrowed := true }
def FnSpanAddUptoSaid : Prop := fnSpanAddUptoRow.holds Try.pinned (OpenSpec.upto fnSpanAddSpec)

/-- 'laws.FnNumUp', WHERE WHAT IT READS IS OF BULK AT MOST 1048576: true; the input reads as it did. -/
def fnNumUpUptoRow : OpenClaim := { program := "ytbdlfopkdplgcaa", sum := "2a12ba36a01a51f6ab6ddc03efc5ef72de7d030d9748388dafff6dad854c9474", func := "loop.example/alidade/laws.FnNumUp", spec := "fnNumUp", apart := false, narrowed := true }
def FnNumUpUptoSaid : Prop := fnNumUpUptoRow.holds Try.pinned (OpenSpec.upto fnNumUpSpec)

/-- 'laws.FnSpanOf', WHERE WHAT IT READS IS OF BULK AT MOST 1048576: true; the input reads as it did. -/
def fnSpanOfUptoRow : OpenClaim := { program := "ytbdlfopkdplgcaa", sum := "2a12ba36a01a51f6ab6ddc03efc5ef72de7d030d9748388dafff6dad854c9474", func := "loop.example/alidade/laws.FnSpanOf", spec := "fnSpanOf", apart := false, narrowed := true }
def FnSpanOfUptoSaid : Prop := fnSpanOfUptoRow.holds Try.pinned (OpenSpec.upto fnSpanOfSpec)

/-- 'laws.FnSpanOfMore', WHERE WHAT IT READS IS OF BULK AT MOST 1048576: true; the input reads as it did. -/
def fnSpanOfMoreUptoRow : OpenClaim := { program := "ytbdlfopkdplgcaa", sum := "2a12ba36a01a51f6ab6ddc03efc5ef72de7d030d9748388dafff6dad854c9474", func := "loop.example/alidade/laws.FnSpanOfMore", spec := "fnSpanOfMore", apart := false, narrowed := true }
def FnSpanOfMoreUptoSaid : Prop := fnSpanOfMoreUptoRow.holds Try.pinned (OpenSpec.upto fnSpanOfMoreSpec)

/-- 'laws.FnSpanMeet', WHERE WHAT IT READS IS OF BULK AT MOST 1048576: true; the input reads as it did. -/
def fnSpanMeetUptoRow : OpenClaim := { program := "ytbdlfopkdplgcaa", sum := "2a12ba36a01a51f6ab6ddc03efc5ef72de7d030d9748388dafff6dad854c9474", func := "loop.example/alidade/laws.FnSpanMeet", spec := "fnSpanMeet", apart := false, narrowed := true }
def FnSpanMeetUptoSaid : Prop := fnSpanMeetUptoRow.holds Try.pinned (OpenSpec.upto fnSpanMeetSpec)

/-- 'laws.FnSpanSub', WHERE WHAT IT READS IS OF BULK AT MOST 1048576: true; the input reads as it did. -/
def fnSpanSubUptoRow : OpenClaim := { program := "ytbdlfopkdplgcaa", sum := "2a12ba36a01a51f6ab6ddc03efc5ef72de7d030d9748388dafff6dad854c9474", func := "loop.example/alidade/laws.FnSpanSub", spec := "fnSpanSub", apart := false, narrowed := true }
def FnSpanSubUptoSaid : Prop := fnSpanSubUptoRow.holds Try.pinned (OpenSpec.upto fnSpanSubSpec)

/-- 'laws.FnSpanMul', WHERE WHAT IT READS IS OF BULK AT MOST 1048576: true; the input reads as it did. -/
def fnSpanMulUptoRow : OpenClaim := { program := "ytbdlfopkdplgcaa", sum := "2a12ba36a01a51f6ab6ddc03efc5ef72de7d030d9748388dafff6dad854c9474", func := "loop.example/alidade/laws.FnSpanMul", spec := "fnSpanMul", apart := false, narrowed := true }
def FnSpanMulUptoSaid : Prop := fnSpanMulUptoRow.holds Try.pinned (OpenSpec.upto fnSpanMulSpec)

/-- 'laws.FnSpanMulNeg', WHERE WHAT IT READS IS OF BULK AT MOST 1048576: true; the input reads as it did. -/
def fnSpanMulNegUptoRow : OpenClaim := { program := "ytbdlfopkdplgcaa", sum := "2a12ba36a01a51f6ab6ddc03efc5ef72de7d030d9748388dafff6dad854c9474", func := "loop.example/alidade/laws.FnSpanMulNeg", spec := "fnSpanMulNeg", apart := false, narrowed := true }
def FnSpanMulNegUptoSaid : Prop := fnSpanMulNegUptoRow.holds Try.pinned (OpenSpec.upto fnSpanMulNegSpec)

/-- 'laws.FnSpanMulIn', WHERE WHAT IT READS IS OF BULK AT MOST 1048576: true; the input reads as it did. -/
def fnSpanMulInUptoRow : OpenClaim := { program := "ytbdlfopkdplgcaa", sum := "2a12ba36a01a51f6ab6ddc03efc5ef72de7d030d9748388dafff6dad854c9474", func := "loop.example/alidade/laws.FnSpanMulIn", spec := "fnSpanMulIn", apart := false, narrowed := true }
def FnSpanMulInUptoSaid : Prop := fnSpanMulInUptoRow.holds Try.pinned (OpenSpec.upto fnSpanMulInSpec)

/-- 'laws.FnNumMore', WHERE WHAT IT READS IS OF BULK AT MOST 1048576: true; the input reads as it did. -/
def fnNumMoreUptoRow : OpenClaim := { program := "ytbdlfopkdplgcaa", sum := "2a12ba36a01a51f6ab6ddc03efc5ef72de7d030d9748388dafff6dad854c9474", func := "loop.example/alidade/laws.FnNumMore", spec := "fnNumMore", apart := false, narrowed := true }
def FnNumMoreUptoSaid : Prop := fnNumMoreUptoRow.holds Try.pinned (OpenSpec.upto fnNumMoreSpec)

/-- 'laws.FnNumTurn', WHERE WHAT IT READS IS OF BULK AT MOST 1048576: true; the input reads as it did. -/
def fnNumTurnUptoRow : OpenClaim := { program := "ytbdlfopkdplgcaa", sum := "2a12ba36a01a51f6ab6ddc03efc5ef72de7d030d9748388dafff6dad854c9474", func := "loop.example/alidade/laws.FnNumTurn", spec := "fnNumTurn", apart := false, narrowed := true }
def FnNumTurnUptoSaid : Prop := fnNumTurnUptoRow.holds Try.pinned (OpenSpec.upto fnNumTurnSpec)

end Rows
end Go.Proofs.Ytbdlfopkdplgcaa
