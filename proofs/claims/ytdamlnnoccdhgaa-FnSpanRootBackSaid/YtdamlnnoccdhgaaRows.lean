/-
  No cell of these rows narrows 'for every input' (looked for: loops, veiled, ifaces, maps, wideKeys, modest, calm, conditions, laid).
  DERIVED. THE GIVEN ROWS OF THIS SEAT. 12 by the template 'for every input the law returns true; each argument reads behind the call as it read before'; 0 by the template 'total and deterministic' (their statements: YtdamlnnoccdhgaaTotals.lean).
  GIVEN WITH THE SEED: the statements are not yours to turn. If you find one false, say at which input.
  Laid BY PROGRAM, IN A SANDBOX (cutbox-rows.mjs): the forced cells as the released guide's own fill.sh prints them over the translation 3caaf7191f2e1921… (all of the seat's roots in one cut). By AI agents, Wed Nov 11 2026. No macro, syntax, notation, axiom, sorry.
-/
import Derived.Test.YtdamlnnoccdhgaaChecked
import GoSem.Claim
import GoSem.ClaimJoined
import GoSem.ClaimMapViews
import Derived.JoinedTies
import Derived.KernelRfl
namespace Go.Proofs.Ytdamlnnoccdhgaa
/- THE CELL 'sum', in the pinned program and in every row, IS THE sha256 OF THE DUMP (.gsa) THAT YtdamlnnoccdhgaaProg.lean LOADS. Nothing in Lean hashes anything: it is a label: what it is worth is what the hold of that sum in a sandbox is worth. -/
noncomputable def Try.pinned : Pinned := { name := "ytdamlnnoccdhgaa", sum := "3caaf7191f2e19212fbf62bc40c48a7e0c54764c6b2209583b21919f31569524", checked := Try.checked }
namespace Rows
def none {H : Type} : Left H := { results := [], args := [] }

/-- 'laws.FnExactConstants': WHATEVER THE INPUT: true; the input reads as it did. -/
def fnExactConstantsSpec : ChangeSpec := { name := "fnExactConstants", fn := fun _ => fun
  | [] => { results := [.lit (.bool true)], args := [] }
  | _ => none }
def fnExactConstantsRow : OpenClaim := { program := "ytdamlnnoccdhgaa", sum := "3caaf7191f2e19212fbf62bc40c48a7e0c54764c6b2209583b21919f31569524", func := "loop.example/alidade/laws.FnExactConstants", spec := "fnExactConstants", apart := false }
def FnExactConstantsSaid : Prop := fnExactConstantsRow.holds Try.pinned (OpenSpec.ofChange fnExactConstantsSpec)

/-- ITS FALSE NEIGHBOUR: 'it returns false'. Refute it at one input. -/
def fnExactConstantsWrong : ChangeSpec := { name := "fnExactConstants", fn := fun _ => fun
  | [] => { results := [.lit (.bool false)], args := [] }
  | _ => none }
def FnExactConstantsWrongFalsely : Prop := fnExactConstantsRow.holds Try.pinned (OpenSpec.ofChange fnExactConstantsWrong)

/-- 'laws.FnExactSpanOk': WHATEVER THE INPUT: true; the input reads as it did. -/
def fnExactSpanOkSpec : ChangeSpec := { name := "fnExactSpanOk", fn := fun _ => fun
  | [d] => { results := [.lit (.bool true)], args := [d] }
  | _ => none }
def fnExactSpanOkRow : OpenClaim := { program := "ytdamlnnoccdhgaa", sum := "3caaf7191f2e19212fbf62bc40c48a7e0c54764c6b2209583b21919f31569524", func := "loop.example/alidade/laws.FnExactSpanOk", spec := "fnExactSpanOk", apart := false }
def FnExactSpanOkSaid : Prop := fnExactSpanOkRow.holds Try.pinned (OpenSpec.ofChange fnExactSpanOkSpec)

/-- ITS FALSE NEIGHBOUR: 'it returns false'. Refute it at one input. -/
def fnExactSpanOkWrong : ChangeSpec := { name := "fnExactSpanOk", fn := fun _ => fun
  | [d] => { results := [.lit (.bool false)], args := [d] }
  | _ => none }
def FnExactSpanOkWrongFalsely : Prop := fnExactSpanOkRow.holds Try.pinned (OpenSpec.ofChange fnExactSpanOkWrong)

/-- 'laws.FnExactSpanWithin': WHATEVER THE INPUT: true; the input reads as it did. -/
def fnExactSpanWithinSpec : ChangeSpec := { name := "fnExactSpanWithin", fn := fun _ => fun
  | [d1, d2] => { results := [.lit (.bool true)], args := [d1, d2] }
  | _ => none }
def fnExactSpanWithinRow : OpenClaim := { program := "ytdamlnnoccdhgaa", sum := "3caaf7191f2e19212fbf62bc40c48a7e0c54764c6b2209583b21919f31569524", func := "loop.example/alidade/laws.FnExactSpanWithin", spec := "fnExactSpanWithin", apart := false }
def FnExactSpanWithinSaid : Prop := fnExactSpanWithinRow.holds Try.pinned (OpenSpec.ofChange fnExactSpanWithinSpec)

/-- ITS FALSE NEIGHBOUR: 'it returns false'. Refute it at one input. -/
def fnExactSpanWithinWrong : ChangeSpec := { name := "fnExactSpanWithin", fn := fun _ => fun
  | [d1, d2] => { results := [.lit (.bool false)], args := [d1, d2] }
  | _ => none }
def FnExactSpanWithinWrongFalsely : Prop := fnExactSpanWithinRow.holds Try.pinned (OpenSpec.ofChange fnExactSpanWithinWrong)

/-- 'laws.FnExactSpanHas': WHATEVER THE INPUT: true; the input reads as it did. -/
def fnExactSpanHasSpec : ChangeSpec := { name := "fnExactSpanHas", fn := fun _ => fun
  | [d1, d2, d3] => { results := [.lit (.bool true)], args := [d1, d2, d3] }
  | _ => none }
def fnExactSpanHasRow : OpenClaim := { program := "ytdamlnnoccdhgaa", sum := "3caaf7191f2e19212fbf62bc40c48a7e0c54764c6b2209583b21919f31569524", func := "loop.example/alidade/laws.FnExactSpanHas", spec := "fnExactSpanHas", apart := false }
def FnExactSpanHasSaid : Prop := fnExactSpanHasRow.holds Try.pinned (OpenSpec.ofChange fnExactSpanHasSpec)

/-- ITS FALSE NEIGHBOUR: 'it returns false'. Refute it at one input. -/
def fnExactSpanHasWrong : ChangeSpec := { name := "fnExactSpanHas", fn := fun _ => fun
  | [d1, d2, d3] => { results := [.lit (.bool false)], args := [d1, d2, d3] }
  | _ => none }
def FnExactSpanHasWrongFalsely : Prop := fnExactSpanHasRow.holds Try.pinned (OpenSpec.ofChange fnExactSpanHasWrong)

/-- 'laws.FnExactSpanHull': WHATEVER THE INPUT: true; the input reads as it did. -/
def fnExactSpanHullSpec : ChangeSpec := { name := "fnExactSpanHull", fn := fun _ => fun
  | [d1, d2] => { results := [.lit (.bool true)], args := [d1, d2] }
  | _ => none }
def fnExactSpanHullRow : OpenClaim := { program := "ytdamlnnoccdhgaa", sum := "3caaf7191f2e19212fbf62bc40c48a7e0c54764c6b2209583b21919f31569524", func := "loop.example/alidade/laws.FnExactSpanHull", spec := "fnExactSpanHull", apart := false }
def FnExactSpanHullSaid : Prop := fnExactSpanHullRow.holds Try.pinned (OpenSpec.ofChange fnExactSpanHullSpec)

/-- ITS FALSE NEIGHBOUR: 'it returns false'. Refute it at one input. -/
def fnExactSpanHullWrong : ChangeSpec := { name := "fnExactSpanHull", fn := fun _ => fun
  | [d1, d2] => { results := [.lit (.bool false)], args := [d1, d2] }
  | _ => none }
def FnExactSpanHullWrongFalsely : Prop := fnExactSpanHullRow.holds Try.pinned (OpenSpec.ofChange fnExactSpanHullWrong)

/-- 'laws.FnSpanDiv': WHATEVER THE INPUT: true; the input reads as it did. -/
def fnSpanDivSpec : ChangeSpec := { name := "fnSpanDiv", fn := fun _ => fun
  | [d1, d2] => { results := [.lit (.bool true)], args := [d1, d2] }
  | _ => none }
def fnSpanDivRow : OpenClaim := { program := "ytdamlnnoccdhgaa", sum := "3caaf7191f2e19212fbf62bc40c48a7e0c54764c6b2209583b21919f31569524", func := "loop.example/alidade/laws.FnSpanDiv", spec := "fnSpanDiv", apart := false }
def FnSpanDivSaid : Prop := fnSpanDivRow.holds Try.pinned (OpenSpec.ofChange fnSpanDivSpec)

/-- ITS FALSE NEIGHBOUR: 'it returns false'. Refute it at one input. -/
def fnSpanDivWrong : ChangeSpec := { name := "fnSpanDiv", fn := fun _ => fun
  | [d1, d2] => { results := [.lit (.bool false)], args := [d1, d2] }
  | _ => none }
def FnSpanDivWrongFalsely : Prop := fnSpanDivRow.holds Try.pinned (OpenSpec.ofChange fnSpanDivWrong)

/-- 'laws.FnExactSpanNeg': WHATEVER THE INPUT: true; the input reads as it did. -/
def fnExactSpanNegSpec : ChangeSpec := { name := "fnExactSpanNeg", fn := fun _ => fun
  | [d] => { results := [.lit (.bool true)], args := [d] }
  | _ => none }
def fnExactSpanNegRow : OpenClaim := { program := "ytdamlnnoccdhgaa", sum := "3caaf7191f2e19212fbf62bc40c48a7e0c54764c6b2209583b21919f31569524", func := "loop.example/alidade/laws.FnExactSpanNeg", spec := "fnExactSpanNeg", apart := false }
def FnExactSpanNegSaid : Prop := fnExactSpanNegRow.holds Try.pinned (OpenSpec.ofChange fnExactSpanNegSpec)

/-- ITS FALSE NEIGHBOUR: 'it returns false'. Refute it at one input. -/
def fnExactSpanNegWrong : ChangeSpec := { name := "fnExactSpanNeg", fn := fun _ => fun
  | [d] => { results := [.lit (.bool false)], args := [d] }
  | _ => none }
def FnExactSpanNegWrongFalsely : Prop := fnExactSpanNegRow.holds Try.pinned (OpenSpec.ofChange fnExactSpanNegWrong)

/-- 'laws.FnExactNumRoot': WHATEVER THE INPUT: true; the input reads as it did. -/
def fnExactNumRootSpec : ChangeSpec := { name := "fnExactNumRoot", fn := fun _ => fun
  | [d] => { results := [.lit (.bool true)], args := [d] }
  | _ => none }
def fnExactNumRootRow : OpenClaim := { program := "ytdamlnnoccdhgaa", sum := "3caaf7191f2e19212fbf62bc40c48a7e0c54764c6b2209583b21919f31569524", func := "loop.example/alidade/laws.FnExactNumRoot", spec := "fnExactNumRoot", apart := false }
def FnExactNumRootSaid : Prop := fnExactNumRootRow.holds Try.pinned (OpenSpec.ofChange fnExactNumRootSpec)

/-- ITS FALSE NEIGHBOUR: 'it returns false'. Refute it at one input. -/
def fnExactNumRootWrong : ChangeSpec := { name := "fnExactNumRoot", fn := fun _ => fun
  | [d] => { results := [.lit (.bool false)], args := [d] }
  | _ => none }
def FnExactNumRootWrongFalsely : Prop := fnExactNumRootRow.holds Try.pinned (OpenSpec.ofChange fnExactNumRootWrong)

/-- 'laws.FnExactSpanAdd': WHATEVER THE INPUT: true; the input reads as it did. -/
def fnExactSpanAddSpec : ChangeSpec := { name := "fnExactSpanAdd", fn := fun _ => fun
  | [d1, d2] => { results := [.lit (.bool true)], args := [d1, d2] }
  | _ => none }
def fnExactSpanAddRow : OpenClaim := { program := "ytdamlnnoccdhgaa", sum := "3caaf7191f2e19212fbf62bc40c48a7e0c54764c6b2209583b21919f31569524", func := "loop.example/alidade/laws.FnExactSpanAdd", spec := "fnExactSpanAdd", apart := false }
def FnExactSpanAddSaid : Prop := fnExactSpanAddRow.holds Try.pinned (OpenSpec.ofChange fnExactSpanAddSpec)

/-- ITS FALSE NEIGHBOUR: 'it returns false'. Refute it at one input. -/
def fnExactSpanAddWrong : ChangeSpec := { name := "fnExactSpanAdd", fn := fun _ => fun
  | [d1, d2] => { results := [.lit (.bool false)], args := [d1, d2] }
  | _ => none }
def FnExactSpanAddWrongFalsely : Prop := fnExactSpanAddRow.holds Try.pinned (OpenSpec.ofChange fnExactSpanAddWrong)

/-- 'laws.FnExactSpanMeet': WHATEVER THE INPUT: true; the input reads as it did. -/
def fnExactSpanMeetSpec : ChangeSpec := { name := "fnExactSpanMeet", fn := fun _ => fun
  | [d1, d2] => { results := [.lit (.bool true)], args := [d1, d2] }
  | _ => none }
def fnExactSpanMeetRow : OpenClaim := { program := "ytdamlnnoccdhgaa", sum := "3caaf7191f2e19212fbf62bc40c48a7e0c54764c6b2209583b21919f31569524", func := "loop.example/alidade/laws.FnExactSpanMeet", spec := "fnExactSpanMeet", apart := false }
def FnExactSpanMeetSaid : Prop := fnExactSpanMeetRow.holds Try.pinned (OpenSpec.ofChange fnExactSpanMeetSpec)

/-- ITS FALSE NEIGHBOUR: 'it returns false'. Refute it at one input. -/
def fnExactSpanMeetWrong : ChangeSpec := { name := "fnExactSpanMeet", fn := fun _ => fun
  | [d1, d2] => { results := [.lit (.bool false)], args := [d1, d2] }
  | _ => none }
def FnExactSpanMeetWrongFalsely : Prop := fnExactSpanMeetRow.holds Try.pinned (OpenSpec.ofChange fnExactSpanMeetWrong)

/-- 'laws.FnSpanRootBack': WHATEVER THE INPUT: true; the input reads as it did. -/
def fnSpanRootBackSpec : ChangeSpec := { name := "fnSpanRootBack", fn := fun _ => fun
  | [d] => { results := [.lit (.bool true)], args := [d] }
  | _ => none }
def fnSpanRootBackRow : OpenClaim := { program := "ytdamlnnoccdhgaa", sum := "3caaf7191f2e19212fbf62bc40c48a7e0c54764c6b2209583b21919f31569524", func := "loop.example/alidade/laws.FnSpanRootBack", spec := "fnSpanRootBack", apart := false }
def FnSpanRootBackSaid : Prop := fnSpanRootBackRow.holds Try.pinned (OpenSpec.ofChange fnSpanRootBackSpec)

/-- ITS FALSE NEIGHBOUR: 'it returns false'. Refute it at one input. -/
def fnSpanRootBackWrong : ChangeSpec := { name := "fnSpanRootBack", fn := fun _ => fun
  | [d] => { results := [.lit (.bool false)], args := [d] }
  | _ => none }
def FnSpanRootBackWrongFalsely : Prop := fnSpanRootBackRow.holds Try.pinned (OpenSpec.ofChange fnSpanRootBackWrong)

/-- 'laws.FnExactNumDown': WHATEVER THE INPUT: true; the input reads as it did. -/
def fnExactNumDownSpec : ChangeSpec := { name := "fnExactNumDown", fn := fun _ => fun
  | [d1, d2] => { results := [.lit (.bool true)], args := [d1, d2] }
  | _ => none }
def fnExactNumDownRow : OpenClaim := { program := "ytdamlnnoccdhgaa", sum := "3caaf7191f2e19212fbf62bc40c48a7e0c54764c6b2209583b21919f31569524", func := "loop.example/alidade/laws.FnExactNumDown", spec := "fnExactNumDown", apart := false }
def FnExactNumDownSaid : Prop := fnExactNumDownRow.holds Try.pinned (OpenSpec.ofChange fnExactNumDownSpec)

/-- ITS FALSE NEIGHBOUR: 'it returns false'. Refute it at one input. -/
def fnExactNumDownWrong : ChangeSpec := { name := "fnExactNumDown", fn := fun _ => fun
  | [d1, d2] => { results := [.lit (.bool false)], args := [d1, d2] }
  | _ => none }
def FnExactNumDownWrongFalsely : Prop := fnExactNumDownRow.holds Try.pinned (OpenSpec.ofChange fnExactNumDownWrong)

/- THE SECOND FORM. 'bulk': how many values and letters a reading holds, each counted each time it is reached (what is shared counts as often as it is met; a slice's spare places count too). A statement '..UptoSaid' is the law's where the arguments, and the package variables that the reading takes, are together of bulk at most 1048576: NARROWER than '..Said'. Prove '..Said' where nothing that the law and all that it calls make is longer than what came in: it says more and counts as full. Else prove '..UptoSaid'. A law counts once. -/
mutual
def uptoBulk {H : Type} : DataW H → Nat
  | .lit (.string bytes) => bytes.length + 1
  | .lit _ => 1
  | .nil => 1
  | .ptr d => uptoBulk d + 1
  | .slice elems spare => uptoBulkAll elems + uptoBulkAll spare + 1
  | .agg parts => uptoBulkAll parts + 1
  | .iface _ d => uptoBulk d + 1
  | .map entries => uptoBulkEntries entries + 1
  | .held _ => 1
def uptoBulkAll {H : Type} : List (DataW H) → Nat
  | [] => 0
  | d :: r => uptoBulk d + uptoBulkAll r
def uptoBulkEntries {H : Type} : List (Lit × DataW H) → Nat
  | [] => 0
  | x :: r => uptoBulkEntry x + uptoBulkEntries r
def uptoBulkEntry {H : Type} : Lit × DataW H → Nat
  | (.string bytes, d) => bytes.length + uptoBulk d + 1
  | (_, d) => uptoBulk d + 1
 end
def uptoSmall : (H : Type) → List (DataW H) → Bool := fun _ ds => decide (uptoBulkAll ds ≤ 1048576)
def OpenSpec.upto (s : _root_.Go.ChangeSpec) : _root_.Go.OpenSpec := { _root_.Go.OpenSpec.ofChange s with cond := some uptoSmall }

/-- 'laws.FnExactConstants', WHERE WHAT IT READS IS OF BULK AT MOST 1048576: true; the input reads as it did. -/
def fnExactConstantsUptoRow : OpenClaim := { program := "ytdamlnnoccdhgaa", sum := "3caaf7191f2e19212fbf62bc40c48a7e0c54764c6b2209583b21919f31569524", func := "loop.example/alidade/laws.FnExactConstants", spec := "fnExactConstants", apart := false, narrowed := true }
def FnExactConstantsUptoSaid : Prop := fnExactConstantsUptoRow.holds Try.pinned (OpenSpec.upto fnExactConstantsSpec)

/-- 'laws.FnExactSpanOk', WHERE WHAT IT READS IS OF BULK AT MOST 1048576: true; the input reads as it did. -/
def fnExactSpanOkUptoRow : OpenClaim := { program := "ytdamlnnoccdhgaa", sum := "3caaf7191f2e19212fbf62bc40c48a7e0c54764c6b2209583b21919f31569524", func := "loop.example/alidade/laws.FnExactSpanOk", spec := "fnExactSpanOk", apart := false, narrowed := true }
def FnExactSpanOkUptoSaid : Prop := fnExactSpanOkUptoRow.holds Try.pinned (OpenSpec.upto fnExactSpanOkSpec)

/-- 'laws.FnExactSpanWithin', WHERE WHAT IT READS IS OF BULK AT MOST 1048576: true; the input reads as it did. -/
def fnExactSpanWithinUptoRow : OpenClaim := { program := "ytdamlnnoccdhgaa", sum := "3caaf7191f2e19212fbf62bc40c48a7e0c54764c6b2209583b21919f31569524", func := "loop.example/alidade/laws.FnExactSpanWithin", spec := "fnExactSpanWithin", apart := false, narrowed := true }
def FnExactSpanWithinUptoSaid : Prop := fnExactSpanWithinUptoRow.holds Try.pinned (OpenSpec.upto fnExactSpanWithinSpec)

/-- 'laws.FnExactSpanHas', WHERE WHAT IT READS IS OF BULK AT MOST 1048576: true; the input reads as it did. -/
def fnExactSpanHasUptoRow : OpenClaim := { program := "ytdamlnnoccdhgaa", sum := "3caaf7191f2e19212fbf62bc40c48a7e0c54764c6b2209583b21919f31569524", func := "loop.example/alidade/laws.FnExactSpanHas", spec := "fnExactSpanHas", apart := false, narrowed := true }
def FnExactSpanHasUptoSaid : Prop := fnExactSpanHasUptoRow.holds Try.pinned (OpenSpec.upto fnExactSpanHasSpec)

/-- 'laws.FnExactSpanHull', WHERE WHAT IT READS IS OF BULK AT MOST 1048576: true; the input reads as it did. -/
def fnExactSpanHullUptoRow : OpenClaim := { program := "ytdamlnnoccdhgaa", sum := "3caaf7191f2e19212fbf62bc40c48a7e0c54764c6b2209583b21919f31569524", func := "loop.example/alidade/laws.FnExactSpanHull", spec := "fnExactSpanHull", apart := false, narrowed := true }
def FnExactSpanHullUptoSaid : Prop := fnExactSpanHullUptoRow.holds Try.pinned (OpenSpec.upto fnExactSpanHullSpec)

/-- 'laws.FnSpanDiv', WHERE WHAT IT READS IS OF BULK AT MOST 1048576: true; the input reads as it did. -/
def fnSpanDivUptoRow : OpenClaim := { program := "ytdamlnnoccdhgaa", sum := "3caaf7191f2e19212fbf62bc40c48a7e0c54764c6b2209583b21919f31569524", func := "loop.example/alidade/laws.FnSpanDiv", spec := "fnSpanDiv", apart := false, narrowed := true }
def FnSpanDivUptoSaid : Prop := fnSpanDivUptoRow.holds Try.pinned (OpenSpec.upto fnSpanDivSpec)

/-- 'laws.FnExactSpanNeg', WHERE WHAT IT READS IS OF BULK AT MOST 1048576: true; the input reads as it did. -/
def fnExactSpanNegUptoRow : OpenClaim := { program := "ytdamlnnoccdhgaa", sum := "3caaf7191f2e19212fbf62bc40c48a7e0c54764c6b2209583b21919f31569524", func := "loop.example/alidade/laws.FnExactSpanNeg", spec := "fnExactSpanNeg", apart := false, narrowed := true }
def FnExactSpanNegUptoSaid : Prop := fnExactSpanNegUptoRow.holds Try.pinned (OpenSpec.upto fnExactSpanNegSpec)

/-- 'laws.FnExactNumRoot', WHERE WHAT IT READS IS OF BULK AT MOST 1048576: true; the input reads as it did. -/
def fnExactNumRootUptoRow : OpenClaim := { program := "ytdamlnnoccdhgaa", sum := "3caaf7191f2e19212fbf62bc40c48a7e0c54764c6b2209583b21919f31569524", func := "loop.example/alidade/laws.FnExactNumRoot", spec := "fnExactNumRoot", apart := false, narrowed := true }
def FnExactNumRootUptoSaid : Prop := fnExactNumRootUptoRow.holds Try.pinned (OpenSpec.upto fnExactNumRootSpec)

/-- 'laws.FnExactSpanAdd', WHERE WHAT IT READS IS OF BULK AT MOST 1048576: true; the input reads as it did. -/
def fnExactSpanAddUptoRow : OpenClaim := { program := "ytdamlnnoccdhgaa", sum := "3caaf7191f2e19212fbf62bc40c48a7e0c54764c6b2209583b21919f31569524", func := "loop.example/alidade/laws.FnExactSpanAdd", spec := "fnExactSpanAdd", apart := false, narrowed := true }
def FnExactSpanAddUptoSaid : Prop := fnExactSpanAddUptoRow.holds Try.pinned (OpenSpec.upto fnExactSpanAddSpec)

/-- 'laws.FnExactSpanMeet', WHERE WHAT IT READS IS OF BULK AT MOST 1048576: true; the input reads as it did. -/
def fnExactSpanMeetUptoRow : OpenClaim := { program := "ytdamlnnoccdhgaa", sum := "3caaf7191f2e19212fbf62bc40c48a7e0c54764c6b2209583b21919f31569524", func := "loop.example/alidade/laws.FnExactSpanMeet", spec := "fnExactSpanMeet", apart := false, narrowed := true }
def FnExactSpanMeetUptoSaid : Prop := fnExactSpanMeetUptoRow.holds Try.pinned (OpenSpec.upto fnExactSpanMeetSpec)

/-- 'laws.FnSpanRootBack', WHERE WHAT IT READS IS OF BULK AT MOST 1048576: true; the input reads as it did. -/
def fnSpanRootBackUptoRow : OpenClaim := { program := "ytdamlnnoccdhgaa", sum := "3caaf7191f2e19212fbf62bc40c48a7e0c54764c6b2209583b21919f31569524", func := "loop.example/alidade/laws.FnSpanRootBack", spec := "fnSpanRootBack", apart := false, narrowed := true }
def FnSpanRootBackUptoSaid : Prop := fnSpanRootBackUptoRow.holds Try.pinned (OpenSpec.upto fnSpanRootBackSpec)

/-- 'laws.FnExactNumDown', WHERE WHAT IT READS IS OF BULK AT MOST 1048576: true; the input reads as it did. -/
def fnExactNumDownUptoRow : OpenClaim := { program := "ytdamlnnoccdhgaa", sum := "3caaf7191f2e19212fbf62bc40c48a7e0c54764c6b2209583b21919f31569524", func := "loop.example/alidade/laws.FnExactNumDown", spec := "fnExactNumDown", apart := false, narrowed := true }
def FnExactNumDownUptoSaid : Prop := fnExactNumDownUptoRow.holds Try.pinned (OpenSpec.upto fnExactNumDownSpec)

end Rows
end Go.Proofs.Ytdamlnnoccdhgaa
