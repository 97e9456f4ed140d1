/-
  No cell of these rows narrows 'for every input' (looked for: loops, veiled, ifaces, maps, wideKeys, modest, calm, conditions, laid).
  DERIVED. THE GIVEN ROWS OF THIS SEAT. 12 by the template 'for every input the law returns true; each argument reads behind the call as it read before'; 0 by the template 'total and deterministic' (their statements: YtanmfmfifhcbkaaTotals.lean).
  GIVEN WITH THE SEED: the statements are not yours to turn. If you find one false, say at which input.
  Laid BY PROGRAM, IN A SANDBOX (cutbox-rows.mjs): the forced cells as the released guide's own fill.sh prints them over the translation dfdbb07946837ca0… (all of the seat's roots in one cut). By AI agents, Wed Nov 11 2026. No macro, syntax, notation, axiom, sorry.
-/
import Derived.Test.YtanmfmfifhcbkaaChecked
import GoSem.Claim
import GoSem.ClaimJoined
import GoSem.ClaimMapViews
import Derived.JoinedTies
import Derived.KernelRfl
namespace Go.Proofs.Ytanmfmfifhcbkaa
/- THE CELL 'sum', in the pinned program and in every row, IS THE sha256 OF THE DUMP (.gsa) THAT YtanmfmfifhcbkaaProg.lean LOADS. Nothing in Lean hashes anything: it is a label: what it is worth is what the hold of that sum in a sandbox is worth. -/
noncomputable def Try.pinned : Pinned := { name := "ytanmfmfifhcbkaa", sum := "dfdbb07946837ca08cb599b8798f87a2e9f37d5e3b14bc8377b2db300747da3d", checked := Try.checked }
namespace Rows
def none {H : Type} : Left H := { results := [], args := [] }

/-- 'laws.FnExactNumUp': WHATEVER THE INPUT: true; the input reads as it did. -/
def fnExactNumUpSpec : ChangeSpec := { name := "fnExactNumUp", fn := fun _ => fun
  | [d1, d2] => { results := [.lit (.bool true)], args := [d1, d2] }
  | _ => none }
def fnExactNumUpRow : OpenClaim := { program := "ytanmfmfifhcbkaa", sum := "dfdbb07946837ca08cb599b8798f87a2e9f37d5e3b14bc8377b2db300747da3d", func := "loop.example/alidade/laws.FnExactNumUp", spec := "fnExactNumUp", apart := false }
def FnExactNumUpSaid : Prop := fnExactNumUpRow.holds Try.pinned (OpenSpec.ofChange fnExactNumUpSpec)

/-- ITS FALSE NEIGHBOUR: 'it returns false'. Refute it at one input. -/
def fnExactNumUpWrong : ChangeSpec := { name := "fnExactNumUp", fn := fun _ => fun
  | [d1, d2] => { results := [.lit (.bool false)], args := [d1, d2] }
  | _ => none }
def FnExactNumUpWrongFalsely : Prop := fnExactNumUpRow.holds Try.pinned (OpenSpec.ofChange fnExactNumUpWrong)

/-- 'laws.FnExactSpanSub': WHATEVER THE INPUT: true; the input reads as it did. -/
def fnExactSpanSubSpec : ChangeSpec := { name := "fnExactSpanSub", fn := fun _ => fun
  | [d1, d2] => { results := [.lit (.bool true)], args := [d1, d2] }
  | _ => none }
def fnExactSpanSubRow : OpenClaim := { program := "ytanmfmfifhcbkaa", sum := "dfdbb07946837ca08cb599b8798f87a2e9f37d5e3b14bc8377b2db300747da3d", func := "loop.example/alidade/laws.FnExactSpanSub", spec := "fnExactSpanSub", apart := false }
def FnExactSpanSubSaid : Prop := fnExactSpanSubRow.holds Try.pinned (OpenSpec.ofChange fnExactSpanSubSpec)

/-- ITS FALSE NEIGHBOUR: 'it returns false'. Refute it at one input. -/
def fnExactSpanSubWrong : ChangeSpec := { name := "fnExactSpanSub", fn := fun _ => fun
  | [d1, d2] => { results := [.lit (.bool false)], args := [d1, d2] }
  | _ => none }
def FnExactSpanSubWrongFalsely : Prop := fnExactSpanSubRow.holds Try.pinned (OpenSpec.ofChange fnExactSpanSubWrong)

/-- 'laws.FnExactSpanOf': WHATEVER THE INPUT: true; the input reads as it did. -/
def fnExactSpanOfSpec : ChangeSpec := { name := "fnExactSpanOf", fn := fun _ => fun
  | [d1, d2] => { results := [.lit (.bool true)], args := [d1, d2] }
  | _ => none }
def fnExactSpanOfRow : OpenClaim := { program := "ytanmfmfifhcbkaa", sum := "dfdbb07946837ca08cb599b8798f87a2e9f37d5e3b14bc8377b2db300747da3d", func := "loop.example/alidade/laws.FnExactSpanOf", spec := "fnExactSpanOf", apart := false }
def FnExactSpanOfSaid : Prop := fnExactSpanOfRow.holds Try.pinned (OpenSpec.ofChange fnExactSpanOfSpec)

/-- ITS FALSE NEIGHBOUR: 'it returns false'. Refute it at one input. -/
def fnExactSpanOfWrong : ChangeSpec := { name := "fnExactSpanOf", fn := fun _ => fun
  | [d1, d2] => { results := [.lit (.bool false)], args := [d1, d2] }
  | _ => none }
def FnExactSpanOfWrongFalsely : Prop := fnExactSpanOfRow.holds Try.pinned (OpenSpec.ofChange fnExactSpanOfWrong)

/-- 'laws.FnExactSpanMul': WHATEVER THE INPUT: true; the input reads as it did. -/
def fnExactSpanMulSpec : ChangeSpec := { name := "fnExactSpanMul", fn := fun _ => fun
  | [d1, d2] => { results := [.lit (.bool true)], args := [d1, d2] }
  | _ => none }
def fnExactSpanMulRow : OpenClaim := { program := "ytanmfmfifhcbkaa", sum := "dfdbb07946837ca08cb599b8798f87a2e9f37d5e3b14bc8377b2db300747da3d", func := "loop.example/alidade/laws.FnExactSpanMul", spec := "fnExactSpanMul", apart := false }
def FnExactSpanMulSaid : Prop := fnExactSpanMulRow.holds Try.pinned (OpenSpec.ofChange fnExactSpanMulSpec)

/-- ITS FALSE NEIGHBOUR: 'it returns false'. Refute it at one input. -/
def fnExactSpanMulWrong : ChangeSpec := { name := "fnExactSpanMul", fn := fun _ => fun
  | [d1, d2] => { results := [.lit (.bool false)], args := [d1, d2] }
  | _ => none }
def FnExactSpanMulWrongFalsely : Prop := fnExactSpanMulRow.holds Try.pinned (OpenSpec.ofChange fnExactSpanMulWrong)

/-- 'laws.FnSpanDivBack': WHATEVER THE INPUT: true; the input reads as it did. -/
def fnSpanDivBackSpec : ChangeSpec := { name := "fnSpanDivBack", fn := fun _ => fun
  | [d] => { results := [.lit (.bool true)], args := [d] }
  | _ => none }
def fnSpanDivBackRow : OpenClaim := { program := "ytanmfmfifhcbkaa", sum := "dfdbb07946837ca08cb599b8798f87a2e9f37d5e3b14bc8377b2db300747da3d", func := "loop.example/alidade/laws.FnSpanDivBack", spec := "fnSpanDivBack", apart := false }
def FnSpanDivBackSaid : Prop := fnSpanDivBackRow.holds Try.pinned (OpenSpec.ofChange fnSpanDivBackSpec)

/-- ITS FALSE NEIGHBOUR: 'it returns false'. Refute it at one input. -/
def fnSpanDivBackWrong : ChangeSpec := { name := "fnSpanDivBack", fn := fun _ => fun
  | [d] => { results := [.lit (.bool false)], args := [d] }
  | _ => none }
def FnSpanDivBackWrongFalsely : Prop := fnSpanDivBackRow.holds Try.pinned (OpenSpec.ofChange fnSpanDivBackWrong)

/-- 'laws.FnExactNumRound': WHATEVER THE INPUT: true; the input reads as it did. -/
def fnExactNumRoundSpec : ChangeSpec := { name := "fnExactNumRound", fn := fun _ => fun
  | [d1, d2, d3] => { results := [.lit (.bool true)], args := [d1, d2, d3] }
  | _ => none }
def fnExactNumRoundRow : OpenClaim := { program := "ytanmfmfifhcbkaa", sum := "dfdbb07946837ca08cb599b8798f87a2e9f37d5e3b14bc8377b2db300747da3d", func := "loop.example/alidade/laws.FnExactNumRound", spec := "fnExactNumRound", apart := false }
def FnExactNumRoundSaid : Prop := fnExactNumRoundRow.holds Try.pinned (OpenSpec.ofChange fnExactNumRoundSpec)

/-- ITS FALSE NEIGHBOUR: 'it returns false'. Refute it at one input. -/
def fnExactNumRoundWrong : ChangeSpec := { name := "fnExactNumRound", fn := fun _ => fun
  | [d1, d2, d3] => { results := [.lit (.bool false)], args := [d1, d2, d3] }
  | _ => none }
def FnExactNumRoundWrongFalsely : Prop := fnExactNumRoundRow.holds Try.pinned (OpenSpec.ofChange fnExactNumRoundWrong)

/-- 'laws.FnSpanWithin': WHATEVER THE INPUT: true; the input reads as it did. -/
def fnSpanWithinSpec : ChangeSpec := { name := "fnSpanWithin", fn := fun _ => fun
  | [d1, d2] => { results := [.lit (.bool true)], args := [d1, d2] }
  | _ => none }
def fnSpanWithinRow : OpenClaim := { program := "ytanmfmfifhcbkaa", sum := "dfdbb07946837ca08cb599b8798f87a2e9f37d5e3b14bc8377b2db300747da3d", func := "loop.example/alidade/laws.FnSpanWithin", spec := "fnSpanWithin", apart := false }
def FnSpanWithinSaid : Prop := fnSpanWithinRow.holds Try.pinned (OpenSpec.ofChange fnSpanWithinSpec)

/-- ITS FALSE NEIGHBOUR: 'it returns false'. Refute it at one input. -/
def fnSpanWithinWrong : ChangeSpec := { name := "fnSpanWithin", fn := fun _ => fun
  | [d1, d2] => { results := [.lit (.bool false)], args := [d1, d2] }
  | _ => none }
def FnSpanWithinWrongFalsely : Prop := fnSpanWithinRow.holds Try.pinned (OpenSpec.ofChange fnSpanWithinWrong)

/-- 'laws.FnExactSpanRoot': WHATEVER THE INPUT: true; the input reads as it did. -/
def fnExactSpanRootSpec : ChangeSpec := { name := "fnExactSpanRoot", fn := fun _ => fun
  | [d] => { results := [.lit (.bool true)], args := [d] }
  | _ => none }
def fnExactSpanRootRow : OpenClaim := { program := "ytanmfmfifhcbkaa", sum := "dfdbb07946837ca08cb599b8798f87a2e9f37d5e3b14bc8377b2db300747da3d", func := "loop.example/alidade/laws.FnExactSpanRoot", spec := "fnExactSpanRoot", apart := false }
def FnExactSpanRootSaid : Prop := fnExactSpanRootRow.holds Try.pinned (OpenSpec.ofChange fnExactSpanRootSpec)

/-- ITS FALSE NEIGHBOUR: 'it returns false'. Refute it at one input. -/
def fnExactSpanRootWrong : ChangeSpec := { name := "fnExactSpanRoot", fn := fun _ => fun
  | [d] => { results := [.lit (.bool false)], args := [d] }
  | _ => none }
def FnExactSpanRootWrongFalsely : Prop := fnExactSpanRootRow.holds Try.pinned (OpenSpec.ofChange fnExactSpanRootWrong)

/-- 'laws.FnSpanHull': WHATEVER THE INPUT: true; the input reads as it did. -/
def fnSpanHullSpec : ChangeSpec := { name := "fnSpanHull", fn := fun _ => fun
  | [d1, d2] => { results := [.lit (.bool true)], args := [d1, d2] }
  | _ => none }
def fnSpanHullRow : OpenClaim := { program := "ytanmfmfifhcbkaa", sum := "dfdbb07946837ca08cb599b8798f87a2e9f37d5e3b14bc8377b2db300747da3d", func := "loop.example/alidade/laws.FnSpanHull", spec := "fnSpanHull", apart := false }
def FnSpanHullSaid : Prop := fnSpanHullRow.holds Try.pinned (OpenSpec.ofChange fnSpanHullSpec)

/-- ITS FALSE NEIGHBOUR: 'it returns false'. Refute it at one input. -/
def fnSpanHullWrong : ChangeSpec := { name := "fnSpanHull", fn := fun _ => fun
  | [d1, d2] => { results := [.lit (.bool false)], args := [d1, d2] }
  | _ => none }
def FnSpanHullWrongFalsely : Prop := fnSpanHullRow.holds Try.pinned (OpenSpec.ofChange fnSpanHullWrong)

/-- 'laws.FnExactSpanDiv': WHATEVER THE INPUT: true; the input reads as it did. -/
def fnExactSpanDivSpec : ChangeSpec := { name := "fnExactSpanDiv", fn := fun _ => fun
  | [d1, d2] => { results := [.lit (.bool true)], args := [d1, d2] }
  | _ => none }
def fnExactSpanDivRow : OpenClaim := { program := "ytanmfmfifhcbkaa", sum := "dfdbb07946837ca08cb599b8798f87a2e9f37d5e3b14bc8377b2db300747da3d", func := "loop.example/alidade/laws.FnExactSpanDiv", spec := "fnExactSpanDiv", apart := false }
def FnExactSpanDivSaid : Prop := fnExactSpanDivRow.holds Try.pinned (OpenSpec.ofChange fnExactSpanDivSpec)

/-- ITS FALSE NEIGHBOUR: 'it returns false'. Refute it at one input. -/
def fnExactSpanDivWrong : ChangeSpec := { name := "fnExactSpanDiv", fn := fun _ => fun
  | [d1, d2] => { results := [.lit (.bool false)], args := [d1, d2] }
  | _ => none }
def FnExactSpanDivWrongFalsely : Prop := fnExactSpanDivRow.holds Try.pinned (OpenSpec.ofChange fnExactSpanDivWrong)

/-- 'laws.FnNumRoot': WHATEVER THE INPUT: true; the input reads as it did. -/
def fnNumRootSpec : ChangeSpec := { name := "fnNumRoot", fn := fun _ => fun
  | [d] => { results := [.lit (.bool true)], args := [d] }
  | _ => none }
def fnNumRootRow : OpenClaim := { program := "ytanmfmfifhcbkaa", sum := "dfdbb07946837ca08cb599b8798f87a2e9f37d5e3b14bc8377b2db300747da3d", func := "loop.example/alidade/laws.FnNumRoot", spec := "fnNumRoot", apart := false }
def FnNumRootSaid : Prop := fnNumRootRow.holds Try.pinned (OpenSpec.ofChange fnNumRootSpec)

/-- ITS FALSE NEIGHBOUR: 'it returns false'. Refute it at one input. -/
def fnNumRootWrong : ChangeSpec := { name := "fnNumRoot", fn := fun _ => fun
  | [d] => { results := [.lit (.bool false)], args := [d] }
  | _ => none }
def FnNumRootWrongFalsely : Prop := fnNumRootRow.holds Try.pinned (OpenSpec.ofChange fnNumRootWrong)

/-- 'laws.FnSpanNeg': WHATEVER THE INPUT: true; the input reads as it did. -/
def fnSpanNegSpec : ChangeSpec := { name := "fnSpanNeg", fn := fun _ => fun
  | [d1, d2] => { results := [.lit (.bool true)], args := [d1, d2] }
  | _ => none }
def fnSpanNegRow : OpenClaim := { program := "ytanmfmfifhcbkaa", sum := "dfdbb07946837ca08cb599b8798f87a2e9f37d5e3b14bc8377b2db300747da3d", func := "loop.example/alidade/laws.FnSpanNeg", spec := "fnSpanNeg", apart := false }
def FnSpanNegSaid : Prop := fnSpanNegRow.holds Try.pinned (OpenSpec.ofChange fnSpanNegSpec)

/-- ITS FALSE NEIGHBOUR: 'it returns false'. Refute it at one input. -/
def fnSpanNegWrong : ChangeSpec := { name := "fnSpanNeg", fn := fun _ => fun
  | [d1, d2] => { results := [.lit (.bool false)], args := [d1, d2] }
  | _ => none }
def FnSpanNegWrongFalsely : Prop := fnSpanNegRow.holds Try.pinned (OpenSpec.ofChange fnSpanNegWrong)

/- THE SECOND FORM. 'bulk': how many values and letters a reading holds, each counted each time it is reached (what is shared counts as often as it is met; a slice's spare places count too). A statement '..UptoSaid' is the law's where the arguments, and the package variables that the reading takes, are together of bulk at most 1048576: NARROWER than '..Said'. Prove '..Said' where nothing that the law and all that it calls make is longer than what came in: it says more and counts as full. Else prove '..UptoSaid'. A law counts once. -/
mutual
def uptoBulk {H : Type} : DataW H → Nat
  | .lit (.string bytes) => bytes.length + 1
  | .lit _ => 1
  | .nil => 1
  | .ptr d => uptoBulk d + 1
  | .slice elems spare => uptoBulkAll elems + uptoBulkAll spare + 1
  | .agg parts => uptoBulkAll parts + 1
  | .iface _ d => uptoBulk d + 1
  | .map entries => uptoBulkEntries entries + 1
  | .held _ => 1
def uptoBulkAll {H : Type} : List (DataW H) → Nat
  | [] => 0
  | d :: r => uptoBulk d + uptoBulkAll r
def uptoBulkEntries {H : Type} : List (Lit × DataW H) → Nat
  | [] => 0
  | x :: r => uptoBulkEntry x + uptoBulkEntries r
def uptoBulkEntry {H : Type} : Lit × DataW H → Nat
  | (.string bytes, d) => bytes.length + uptoBulk d + 1
  | (_, d) => uptoBulk d + 1
 end
def uptoSmall : (H : Type) → List (DataW H) → Bool := fun _ ds => decide (uptoBulkAll ds ≤ 1048576)
def OpenSpec.upto (s : _root_.Go.ChangeSpec) : _root_.Go.OpenSpec := { _root_.Go.OpenSpec.ofChange s with cond := some uptoSmall }

/-- 'laws.FnExactNumUp', WHERE WHAT IT READS IS OF BULK AT MOST 1048576: true; the input reads as it did. -/
def fnExactNumUpUptoRow : OpenClaim := { program := "ytanmfmfifhcbkaa", sum := "dfdbb07946837ca08cb599b8798f87a2e9f37d5e3b14bc8377b2db300747da3d", func := "loop.example/alidade/laws.FnExactNumUp", spec := "fnExactNumUp", apart := false, narrowed := true }
def FnExactNumUpUptoSaid : Prop := fnExactNumUpUptoRow.holds Try.pinned (OpenSpec.upto fnExactNumUpSpec)

/-- 'laws.FnExactSpanSub', WHERE WHAT IT READS IS OF BULK AT MOST 1048576: true; the input reads as it did. -/
def fnExactSpanSubUptoRow : OpenClaim := { program := "ytanmfmfifhcbkaa", sum := "dfdbb07946837ca08cb599b8798f87a2e9f37d5e3b14bc8377b2db300747da3d", func := "loop.example/alidade/laws.FnExactSpanSub", spec := "fnExactSpanSub", apart := false, narrowed := true }
def FnExactSpanSubUptoSaid : Prop := fnExactSpanSubUptoRow.holds Try.pinned (OpenSpec.upto fnExactSpanSubSpec)

/-- 'laws.FnExactSpanOf', WHERE WHAT IT READS IS OF BULK AT MOST 1048576: true; the input reads as it did. -/
def fnExactSpanOfUptoRow : OpenClaim := { program := "ytanmfmfifhcbkaa", sum := "dfdbb07946837ca08cb599b8798f87a2e9f37d5e3b14bc8377b2db300747da3d", func := "loop.example/alidade/laws.FnExactSpanOf", spec := "fnExactSpanOf", apart := false, narrowed := true }
def FnExactSpanOfUptoSaid : Prop := fnExactSpanOfUptoRow.holds Try.pinned (OpenSpec.upto fnExactSpanOfSpec)

/-- 'laws.FnExactSpanMul', WHERE WHAT IT READS IS OF BULK AT MOST 1048576: true; the input reads as it did. -/
def fnExactSpanMulUptoRow : OpenClaim := { program := "ytanmfmfifhcbkaa", sum := "dfdbb07946837ca08cb599b8798f87a2e9f37d5e3b14bc8377b2db300747da3d", func := "loop.example/alidade/laws.FnExactSpanMul", spec := "fnExactSpanMul", apart := false, narrowed := true }
def FnExactSpanMulUptoSaid : Prop := fnExactSpanMulUptoRow.holds Try.pinned (OpenSpec.upto fnExactSpanMulSpec)

/-- 'laws.FnSpanDivBack', WHERE WHAT IT READS IS OF BULK AT MOST 1048576: true; the input reads as it did. -/
def fnSpanDivBackUptoRow : OpenClaim := { program := "ytanmfmfifhcbkaa", sum := "dfdbb07946837ca08cb599b8798f87a2e9f37d5e3b14bc8377b2db300747da3d", func := "loop.example/alidade/laws.FnSpanDivBack", spec := "fnSpanDivBack", apart := false, narrowed := true }
def FnSpanDivBackUptoSaid : Prop := fnSpanDivBackUptoRow.holds Try.pinned (OpenSpec.upto fnSpanDivBackSpec)

/-- 'laws.FnExactNumRound', WHERE WHAT IT READS IS OF BULK AT MOST 1048576: true; the input reads as it did. -/
def fnExactNumRoundUptoRow : OpenClaim := { program := "ytanmfmfifhcbkaa", sum := "dfdbb07946837ca08cb599b8798f87a2e9f37d5e3b14bc8377b2db300747da3d", func := "loop.example/alidade/laws.FnExactNumRound", spec := "fnExactNumRound", apart := false, narrowed := true }
def FnExactNumRoundUptoSaid : Prop := fnExactNumRoundUptoRow.holds Try.pinned (OpenSpec.upto fnExactNumRoundSpec)

/-- 'laws.FnSpanWithin', WHERE WHAT IT READS IS OF BULK AT MOST 1048576: true; the input reads as it did. -/
def fnSpanWithinUptoRow : OpenClaim := { program := "ytanmfmfifhcbkaa", sum := "dfdbb07946837ca08cb599b8798f87a2e9f37d5e3b14bc8377b2db300747da3d", func := "loop.example/alidade/laws.FnSpanWithin", spec := "fnSpanWithin", apart := false, narrowed := true }
def FnSpanWithinUptoSaid : Prop := fnSpanWithinUptoRow.holds Try.pinned (OpenSpec.upto fnSpanWithinSpec)

/-- 'laws.FnExactSpanRoot', WHERE WHAT IT READS IS OF BULK AT MOST 1048576: true; the input reads as it did. -/
def fnExactSpanRootUptoRow : OpenClaim := { program := "ytanmfmfifhcbkaa", sum := "dfdbb07946837ca08cb599b8798f87a2e9f37d5e3b14bc8377b2db300747da3d", func := "loop.example/alidade/laws.FnExactSpanRoot", spec := "fnExactSpanRoot", apart := false, narrowed := true }
def FnExactSpanRootUptoSaid : Prop := fnExactSpanRootUptoRow.holds Try.pinned (OpenSpec.upto fnExactSpanRootSpec)

/-- 'laws.FnSpanHull', WHERE WHAT IT READS IS OF BULK AT MOST 1048576: true; the input reads as it did. -/
def fnSpanHullUptoRow : OpenClaim := { program := "ytanmfmfifhcbkaa", sum := "dfdbb07946837ca08cb599b8798f87a2e9f37d5e3b14bc8377b2db300747da3d", func := "loop.example/alidade/laws.FnSpanHull", spec := "fnSpanHull", apart := false, narrowed := true }
def FnSpanHullUptoSaid : Prop := fnSpanHullUptoRow.holds Try.pinned (OpenSpec.upto fnSpanHullSpec)

/-- 'laws.FnExactSpanDiv', WHERE WHAT IT READS IS OF BULK AT MOST 1048576: true; the input reads as it did. -/
def fnExactSpanDivUptoRow : OpenClaim := { program := "ytanmfmfifhcbkaa", sum := "dfdbb07946837ca08cb599b8798f87a2e9f37d5e3b14bc8377b2db300747da3d", func := "loop.example/alidade/laws.FnExactSpanDiv", spec := "fnExactSpanDiv", apart := false, narrowed := true }
def FnExactSpanDivUptoSaid : Prop := fnExactSpanDivUptoRow.holds Try.pinned (OpenSpec.upto fnExactSpanDivSpec)

/-- 'laws.FnNumRoot', WHERE WHAT IT READS IS OF BULK AT MOST 1048576: true; the input reads as it did. -/
def fnNumRootUptoRow : OpenClaim := { program := "ytanmfmfifhcbkaa", sum := "dfdbb07946837ca08cb599b8798f87a2e9f37d5e3b14bc8377b2db300747da3d", func := "loop.example/alidade/laws.FnNumRoot", spec := "fnNumRoot", apart := false, narrowed := true }
def FnNumRootUptoSaid : Prop := fnNumRootUptoRow.holds Try.pinned (OpenSpec.upto fnNumRootSpec)

/-- 'laws.FnSpanNeg', WHERE WHAT IT READS IS OF BULK AT MOST 1048576: true; the input reads as it did. -/
def fnSpanNegUptoRow : OpenClaim := { program := "ytanmfmfifhcbkaa", sum := "dfdbb07946837ca08cb599b8798f87a2e9f37d5e3b14bc8377b2db300747da3d", func := "loop.example/alidade/laws.FnSpanNeg", spec := "fnSpanNeg", apart := false, narrowed := true }
def FnSpanNegUptoSaid : Prop := fnSpanNegUptoRow.holds Try.pinned (OpenSpec.upto fnSpanNegSpec)

end Rows
end Go.Proofs.Ytanmfmfifhcbkaa
