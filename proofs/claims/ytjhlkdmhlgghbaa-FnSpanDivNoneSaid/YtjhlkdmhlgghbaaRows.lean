/-
  No cell of these rows narrows 'for every input' (looked for: loops, veiled, ifaces, maps, wideKeys, modest, calm, conditions, laid).
  DERIVED. THE GIVEN ROWS OF THIS SEAT. 8 by the template 'for every input the law returns true; each argument reads behind the call as it read before'; 0 by the template 'total and deterministic' (their statements: YtjhlkdmhlgghbaaTotals.lean).
  GIVEN WITH THE SEED: the statements are not yours to turn. If you find one false, say at which input.
  Laid BY PROGRAM, IN A SANDBOX (cutbox-rows.mjs): the forced cells as the released guide's own fill.sh prints them over the translation 9c605af502f616ca… (all of the seat's roots in one cut). By AI agents, Wed Nov 11 2026. No macro, syntax, notation, axiom, sorry.
-/
import Derived.Test.YtjhlkdmhlgghbaaChecked
import GoSem.Claim
import GoSem.ClaimJoined
import GoSem.ClaimMapViews
import Derived.JoinedTies
import Derived.KernelRfl
namespace Go.Proofs.Ytjhlkdmhlgghbaa
/- THE CELL 'sum', in the pinned program and in every row, IS THE sha256 OF THE DUMP (.gsa) THAT YtjhlkdmhlgghbaaProg.lean LOADS. Nothing in Lean hashes anything: it is a label: what it is worth is what the hold of that sum in a sandbox is worth. -/
noncomputable def Try.pinned : Pinned := { name := "ytjhlkdmhlgghbaa", sum := "9c605af502f616ca87cd2ba44c4c52b1784ee2289da09ae2204114fe920a36c3", checked := Try.checked }
namespace Rows
def none {H : Type} : Left H := { results := [], args := [] }

/-- 'laws.FnNumWhole': WHATEVER THE INPUT: true; the input reads as it did. -/
def fnNumWholeSpec : ChangeSpec := { name := "fnNumWhole", fn := fun _ => fun
  | [d] => { results := [.lit (.bool true)], args := [d] }
  | _ => none }
def fnNumWholeRow : OpenClaim := { program := "ytjhlkdmhlgghbaa", sum := "9c605af502f616ca87cd2ba44c4c52b1784ee2289da09ae2204114fe920a36c3", func := "loop.example/alidade/laws.FnNumWhole", spec := "fnNumWhole", apart := false }
def FnNumWholeSaid : Prop := fnNumWholeRow.holds Try.pinned (OpenSpec.ofChange fnNumWholeSpec)

/-- ITS FALSE NEIGHBOUR: 'it returns false'. Refute it at one input. -/
def fnNumWholeWrong : ChangeSpec := { name := "fnNumWhole", fn := fun _ => fun
  | [d] => { results := [.lit (.bool false)], args := [d] }
  | _ => none }
def FnNumWholeWrongFalsely : Prop := fnNumWholeRow.holds Try.pinned (OpenSpec.ofChange fnNumWholeWrong)

/-- 'laws.FnNumEven': WHATEVER THE INPUT: true; the input reads as it did. -/
def fnNumEvenSpec : ChangeSpec := { name := "fnNumEven", fn := fun _ => fun
  | [d] => { results := [.lit (.bool true)], args := [d] }
  | _ => none }
def fnNumEvenRow : OpenClaim := { program := "ytjhlkdmhlgghbaa", sum := "9c605af502f616ca87cd2ba44c4c52b1784ee2289da09ae2204114fe920a36c3", func := "loop.example/alidade/laws.FnNumEven", spec := "fnNumEven", apart := false }
def FnNumEvenSaid : Prop := fnNumEvenRow.holds Try.pinned (OpenSpec.ofChange fnNumEvenSpec)

/-- ITS FALSE NEIGHBOUR: 'it returns false'. Refute it at one input. -/
def fnNumEvenWrong : ChangeSpec := { name := "fnNumEven", fn := fun _ => fun
  | [d] => { results := [.lit (.bool false)], args := [d] }
  | _ => none }
def FnNumEvenWrongFalsely : Prop := fnNumEvenRow.holds Try.pinned (OpenSpec.ofChange fnNumEvenWrong)

/-- 'laws.FnSpanHas': WHATEVER THE INPUT: true; the input reads as it did. -/
def fnSpanHasSpec : ChangeSpec := { name := "fnSpanHas", fn := fun _ => fun
  | [d] => { results := [.lit (.bool true)], args := [d] }
  | _ => none }
def fnSpanHasRow : OpenClaim := { program := "ytjhlkdmhlgghbaa", sum := "9c605af502f616ca87cd2ba44c4c52b1784ee2289da09ae2204114fe920a36c3", func := "loop.example/alidade/laws.FnSpanHas", spec := "fnSpanHas", apart := false }
def FnSpanHasSaid : Prop := fnSpanHasRow.holds Try.pinned (OpenSpec.ofChange fnSpanHasSpec)

/-- ITS FALSE NEIGHBOUR: 'it returns false'. Refute it at one input. -/
def fnSpanHasWrong : ChangeSpec := { name := "fnSpanHas", fn := fun _ => fun
  | [d] => { results := [.lit (.bool false)], args := [d] }
  | _ => none }
def FnSpanHasWrongFalsely : Prop := fnSpanHasRow.holds Try.pinned (OpenSpec.ofChange fnSpanHasWrong)

/-- 'laws.FnNumRound': WHATEVER THE INPUT: true; the input reads as it did. -/
def fnNumRoundSpec : ChangeSpec := { name := "fnNumRound", fn := fun _ => fun
  | [d] => { results := [.lit (.bool true)], args := [d] }
  | _ => none }
def fnNumRoundRow : OpenClaim := { program := "ytjhlkdmhlgghbaa", sum := "9c605af502f616ca87cd2ba44c4c52b1784ee2289da09ae2204114fe920a36c3", func := "loop.example/alidade/laws.FnNumRound", spec := "fnNumRound", apart := false }
def FnNumRoundSaid : Prop := fnNumRoundRow.holds Try.pinned (OpenSpec.ofChange fnNumRoundSpec)

/-- ITS FALSE NEIGHBOUR: 'it returns false'. Refute it at one input. -/
def fnNumRoundWrong : ChangeSpec := { name := "fnNumRound", fn := fun _ => fun
  | [d] => { results := [.lit (.bool false)], args := [d] }
  | _ => none }
def FnNumRoundWrongFalsely : Prop := fnNumRoundRow.holds Try.pinned (OpenSpec.ofChange fnNumRoundWrong)

/-- 'laws.FnNumWays': WHATEVER THE INPUT: true; the input reads as it did. -/
def fnNumWaysSpec : ChangeSpec := { name := "fnNumWays", fn := fun _ => fun
  | [d] => { results := [.lit (.bool true)], args := [d] }
  | _ => none }
def fnNumWaysRow : OpenClaim := { program := "ytjhlkdmhlgghbaa", sum := "9c605af502f616ca87cd2ba44c4c52b1784ee2289da09ae2204114fe920a36c3", func := "loop.example/alidade/laws.FnNumWays", spec := "fnNumWays", apart := false }
def FnNumWaysSaid : Prop := fnNumWaysRow.holds Try.pinned (OpenSpec.ofChange fnNumWaysSpec)

/-- ITS FALSE NEIGHBOUR: 'it returns false'. Refute it at one input. -/
def fnNumWaysWrong : ChangeSpec := { name := "fnNumWays", fn := fun _ => fun
  | [d] => { results := [.lit (.bool false)], args := [d] }
  | _ => none }
def FnNumWaysWrongFalsely : Prop := fnNumWaysRow.holds Try.pinned (OpenSpec.ofChange fnNumWaysWrong)

/-- 'laws.FnSpanRoot': WHATEVER THE INPUT: true; the input reads as it did. -/
def fnSpanRootSpec : ChangeSpec := { name := "fnSpanRoot", fn := fun _ => fun
  | [d] => { results := [.lit (.bool true)], args := [d] }
  | _ => none }
def fnSpanRootRow : OpenClaim := { program := "ytjhlkdmhlgghbaa", sum := "9c605af502f616ca87cd2ba44c4c52b1784ee2289da09ae2204114fe920a36c3", func := "loop.example/alidade/laws.FnSpanRoot", spec := "fnSpanRoot", apart := false }
def FnSpanRootSaid : Prop := fnSpanRootRow.holds Try.pinned (OpenSpec.ofChange fnSpanRootSpec)

/-- ITS FALSE NEIGHBOUR: 'it returns false'. Refute it at one input. -/
def fnSpanRootWrong : ChangeSpec := { name := "fnSpanRoot", fn := fun _ => fun
  | [d] => { results := [.lit (.bool false)], args := [d] }
  | _ => none }
def FnSpanRootWrongFalsely : Prop := fnSpanRootRow.holds Try.pinned (OpenSpec.ofChange fnSpanRootWrong)

/-- 'laws.FnSpanRootMore': WHATEVER THE INPUT: true; the input reads as it did. -/
def fnSpanRootMoreSpec : ChangeSpec := { name := "fnSpanRootMore", fn := fun _ => fun
  | [d1, d2] => { results := [.lit (.bool true)], args := [d1, d2] }
  | _ => none }
def fnSpanRootMoreRow : OpenClaim := { program := "ytjhlkdmhlgghbaa", sum := "9c605af502f616ca87cd2ba44c4c52b1784ee2289da09ae2204114fe920a36c3", func := "loop.example/alidade/laws.FnSpanRootMore", spec := "fnSpanRootMore", apart := false }
def FnSpanRootMoreSaid : Prop := fnSpanRootMoreRow.holds Try.pinned (OpenSpec.ofChange fnSpanRootMoreSpec)

/-- ITS FALSE NEIGHBOUR: 'it returns false'. Refute it at one input. -/
def fnSpanRootMoreWrong : ChangeSpec := { name := "fnSpanRootMore", fn := fun _ => fun
  | [d1, d2] => { results := [.lit (.bool false)], args := [d1, d2] }
  | _ => none }
def FnSpanRootMoreWrongFalsely : Prop := fnSpanRootMoreRow.holds Try.pinned (OpenSpec.ofChange fnSpanRootMoreWrong)

/-- 'laws.FnSpanDivNone': WHATEVER THE INPUT: true; the input reads as it did. -/
def fnSpanDivNoneSpec : ChangeSpec := { name := "fnSpanDivNone", fn := fun _ => fun
  | [d] => { results := [.lit (.bool true)], args := [d] }
  | _ => none }
def fnSpanDivNoneRow : OpenClaim := { program := "ytjhlkdmhlgghbaa", sum := "9c605af502f616ca87cd2ba44c4c52b1784ee2289da09ae2204114fe920a36c3", func := "loop.example/alidade/laws.FnSpanDivNone", spec := "fnSpanDivNone", apart := false }
def FnSpanDivNoneSaid : Prop := fnSpanDivNoneRow.holds Try.pinned (OpenSpec.ofChange fnSpanDivNoneSpec)

/-- ITS FALSE NEIGHBOUR: 'it returns false'. Refute it at one input. -/
def fnSpanDivNoneWrong : ChangeSpec := { name := "fnSpanDivNone", fn := fun _ => fun
  | [d] => { results := [.lit (.bool false)], args := [d] }
  | _ => none }
def FnSpanDivNoneWrongFalsely : Prop := fnSpanDivNoneRow.holds Try.pinned (OpenSpec.ofChange fnSpanDivNoneWrong)

/- THE SECOND FORM. 'bulk': how many values and letters a reading holds, each counted each time it is reached (what is shared counts as often as it is met; a slice's spare places count too). A statement '..UptoSaid' is the law's where the arguments, and the package variables that the reading takes, are together of bulk at most 1048576: NARROWER than '..Said'. Prove '..Said' where nothing that the law and all that it calls make is longer than what came in: it says more and counts as full. Else prove '..UptoSaid'. A law counts once. -/
mutual
def uptoBulk {H : Type} : DataW H → Nat
  | .lit (.string bytes) => bytes.length + 1
  | .lit _ => 1
  | .nil => 1
  | .ptr d => uptoBulk d + 1
  | .slice elems spare => uptoBulkAll elems + uptoBulkAll spare + 1
  | .agg parts => uptoBulkAll parts + 1
  | .iface _ d => uptoBulk d + 1
  | .map entries => uptoBulkEntries entries + 1
  | .held _ => 1
def uptoBulkAll {H : Type} : List (DataW H) → Nat
  | [] => 0
  | d :: r => uptoBulk d + uptoBulkAll r
def uptoBulkEntries {H : Type} : List (Lit × DataW H) → Nat
  | [] => 0
  | x :: r => uptoBulkEntry x + uptoBulkEntries r
def uptoBulkEntry {H : Type} : Lit × DataW H → Nat
  | (.string bytes, d) => bytes.length + uptoBulk d + 1
  | (_, d) => uptoBulk d + 1
 end
def uptoSmall : (H : Type) → List (DataW H) → Bool := fun _ ds => decide (uptoBulkAll ds ≤ 1048576)
def OpenSpec.upto (s : _root_.Go.ChangeSpec) : _root_.Go.OpenSpec := { _root_.Go.OpenSpec.ofChange s with cond := some uptoSmall }

/-- 'laws.FnNumWhole', WHERE WHAT IT READS IS OF BULK AT MOST 1048576: true; the input reads as it did. -/
def fnNumWholeUptoRow : OpenClaim := { program := "ytjhlkdmhlgghbaa", sum := "9c605af502f616ca87cd2ba44c4c52b1784ee2289da09ae2204114fe920a36c3", func := "loop.example/alidade/laws.FnNumWhole", spec := "fnNumWhole", apart := false, narrowed := true }
def FnNumWholeUptoSaid : Prop := fnNumWholeUptoRow.holds Try.pinned (OpenSpec.upto fnNumWholeSpec)

/-- 'laws.FnNumEven', WHERE WHAT IT READS IS OF BULK AT MOST 1048576: true; the input reads as it did. -/
def fnNumEvenUptoRow : OpenClaim := { program := "ytjhlkdmhlgghbaa", sum := "9c605af502f616ca87cd2ba44c4c52b1784ee2289da09ae2204114fe920a36c3", func := "loop.example/alidade/laws.FnNumEven", spec := "fnNumEven", apart := false, narrowed := true }
def FnNumEvenUptoSaid : Prop := fnNumEvenUptoRow.holds Try.pinned (OpenSpec.upto fnNumEvenSpec)

/-- 'laws.FnSpanHas', WHERE WHAT IT READS IS OF BULK AT MOST 1048576: true; the input reads as it did. -/
def fnSpanHasUptoRow : OpenClaim := { program := "ytjhlkdmhlgghbaa", sum := "9c605af502f616ca87cd2ba44c4c52b1784ee2289da09ae2204114fe920a36c3", func := "loop.example/alidade/laws.FnSpanHas", spec := "fnSpanHas", apart := false, narrowed := true }
def FnSpanHasUptoSaid : Prop := fnSpanHasUptoRow.holds Try.pinned (OpenSpec.upto fnSpanHasSpec)

/-- 'laws.FnNumRound', WHERE WHAT IT READS IS OF BULK AT MOST 1048576: true; the input reads as it did. -/
def fnNumRoundUptoRow : OpenClaim := { program := "ytjhlkdmhlgghbaa", sum := "9c605af502f616ca87cd2ba44c4c52b1784ee2289da09ae2204114fe920a36c3", func := "loop.example/alidade/laws.FnNumRound", spec := "fnNumRound", apart := false, narrowed := true }
def FnNumRoundUptoSaid : Prop := fnNumRoundUptoRow.holds Try.pinned (OpenSpec.upto fnNumRoundSpec)

/-- 'laws.FnNumWays', WHERE WHAT IT READS IS OF BULK AT MOST 1048576: true; the input reads as it did. -/
def fnNumWaysUptoRow : OpenClaim := { program := "ytjhlkdmhlgghbaa", sum := "9c605af502f616ca87cd2ba44c4c52b1784ee2289da09ae2204114fe920a36c3", func := "loop.example/alidade/laws.FnNumWays", spec := "fnNumWays", apart := false, narrowed := true }
def FnNumWaysUptoSaid : Prop := fnNumWaysUptoRow.holds Try.pinned (OpenSpec.upto fnNumWaysSpec)

/-- 'laws.FnSpanRoot', WHERE WHAT IT READS IS OF BULK AT MOST 1048576: true; the input reads as it did. -/
def fnSpanRootUptoRow : OpenClaim := { program := "ytjhlkdmhlgghbaa", sum := "9c605af502f616ca87cd2ba44c4c52b1784ee2289da09ae2204114fe920a36c3", func := "loop.example/alidade/laws.FnSpanRoot", spec := "fnSpanRoot", apart := false, narrowed := true }
def FnSpanRootUptoSaid : Prop := fnSpanRootUptoRow.holds Try.pinned (OpenSpec.upto fnSpanRootSpec)

/-- 'laws.FnSpanRootMore', WHERE WHAT IT READS IS OF BULK AT MOST 1048576: true; the input reads as it did. -/
def fnSpanRootMoreUptoRow : OpenClaim := { program := "ytjhlkdmhlgghbaa", sum := "9c605af502f616ca87cd2ba44c4c52b1784ee2289da09ae2204114fe920a36c3", func := "loop.example/alidade/laws.FnSpanRootMore", spec := "fnSpanRootMore", apart := false, narrowed := true }
def FnSpanRootMoreUptoSaid : Prop := fnSpanRootMoreUptoRow.holds Try.pinned (OpenSpec.upto fnSpanRootMoreSpec)

/-- 'laws.FnSpanDivNone', WHERE WHAT IT READS IS OF BULK AT MOST 1048576: true; the input reads as it did. -/
def fnSpanDivNoneUptoRow : OpenClaim := { program := "ytjhlkdmhlgghbaa", sum := "9c605af502f616ca87cd2ba44c4c52b1784ee2289da09ae2204114fe920a36c3", func := "loop.example/alidade/laws.FnSpanDivNone", spec := "fnSpanDivNone", apart := false, narrowed := true }
def FnSpanDivNoneUptoSaid : Prop := fnSpanDivNoneUptoRow.holds Try.pinned (OpenSpec.upto fnSpanDivNoneSpec)

end Rows
end Go.Proofs.Ytjhlkdmhlgghbaa
