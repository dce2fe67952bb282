/-
  No cell of these rows narrows 'for every input' (looked for: loops, veiled, ifaces, maps, wideKeys, modest, calm, conditions, laid).
  DERIVED. THE GIVEN ROWS OF THIS SEAT. 12 by the template 'for every input the law returns true; each argument reads behind the call as it read before'; 0 by the template 'total and deterministic' (their statements: YtaieobidkmihkaaTotals.lean).
  GIVEN WITH THE SEED: the statements are not yours to turn. If you find one false, say at which input.
  Laid BY PROGRAM, IN A SANDBOX (cutbox-rows.mjs): the forced cells as the released guide's own fill.sh prints them over the translation 5abf5059e80934f0… (all of the seat's roots in one cut). By AI agents, Wed Nov 11 2026. No macro, syntax, notation, axiom, sorry.
-/
import Derived.Test.YtaieobidkmihkaaChecked
import GoSem.Claim
import GoSem.ClaimJoined
import GoSem.ClaimMapViews
import Derived.JoinedTies
import Derived.KernelRfl
namespace Go.Proofs.Ytaieobidkmihkaa
/- THE CELL 'sum', in the pinned program and in every row, IS THE sha256 OF THE DUMP (.gsa) THAT YtaieobidkmihkaaProg.lean LOADS. Nothing in Lean hashes anything: it is a label: what it is worth is what the hold of that sum in a sandbox is worth. -/
noncomputable def Try.pinned : Pinned := { name := "ytaieobidkmihkaa", sum := "5abf5059e80934f07d65509e3286711e44e8a00cd768738847844d734573db46", checked := Try.checked }
namespace Rows
def none {H : Type} : Left H := { results := [], args := [] }

/-- 'laws.FnExactPushAll': WHATEVER THE INPUT: true; the input reads as it did. -/
def fnExactPushAllSpec : ChangeSpec := { name := "fnExactPushAll", fn := fun _ => fun
  | [d1, d2, d3] => { results := [.lit (.bool true)], args := [d1, d2, d3] }
  | _ => none }
def fnExactPushAllRow : OpenClaim := { program := "ytaieobidkmihkaa", sum := "5abf5059e80934f07d65509e3286711e44e8a00cd768738847844d734573db46", func := "loop.example/g01179/laws.FnExactPushAll", spec := "fnExactPushAll", apart := false }
def FnExactPushAllSaid : Prop := fnExactPushAllRow.holds Try.pinned (OpenSpec.ofChange fnExactPushAllSpec)

/-- ITS FALSE NEIGHBOUR: 'it returns false'. Refute it at one input. -/
def fnExactPushAllWrong : ChangeSpec := { name := "fnExactPushAll", fn := fun _ => fun
  | [d1, d2, d3] => { results := [.lit (.bool false)], args := [d1, d2, d3] }
  | _ => none }
def FnExactPushAllWrongFalsely : Prop := fnExactPushAllRow.holds Try.pinned (OpenSpec.ofChange fnExactPushAllWrong)

/-- 'laws.FnExactStraightRing': WHATEVER THE INPUT: true; the input reads as it did. -/
def fnExactStraightRingSpec : ChangeSpec := { name := "fnExactStraightRing", fn := fun _ => fun
  | [d1, d2] => { results := [.lit (.bool true)], args := [d1, d2] }
  | _ => none }
def fnExactStraightRingRow : OpenClaim := { program := "ytaieobidkmihkaa", sum := "5abf5059e80934f07d65509e3286711e44e8a00cd768738847844d734573db46", func := "loop.example/g01179/laws.FnExactStraightRing", spec := "fnExactStraightRing", apart := false }
def FnExactStraightRingSaid : Prop := fnExactStraightRingRow.holds Try.pinned (OpenSpec.ofChange fnExactStraightRingSpec)

/-- ITS FALSE NEIGHBOUR: 'it returns false'. Refute it at one input. -/
def fnExactStraightRingWrong : ChangeSpec := { name := "fnExactStraightRing", fn := fun _ => fun
  | [d1, d2] => { results := [.lit (.bool false)], args := [d1, d2] }
  | _ => none }
def FnExactStraightRingWrongFalsely : Prop := fnExactStraightRingRow.holds Try.pinned (OpenSpec.ofChange fnExactStraightRingWrong)

/-- 'laws.FnExactTakeAhead': WHATEVER THE INPUT: true; the input reads as it did. -/
def fnExactTakeAheadSpec : ChangeSpec := { name := "fnExactTakeAhead", fn := fun _ => fun
  | [d1, d2] => { results := [.lit (.bool true)], args := [d1, d2] }
  | _ => none }
def fnExactTakeAheadRow : OpenClaim := { program := "ytaieobidkmihkaa", sum := "5abf5059e80934f07d65509e3286711e44e8a00cd768738847844d734573db46", func := "loop.example/g01179/laws.FnExactTakeAhead", spec := "fnExactTakeAhead", unfollowed := true, recurses := true, apart := false }
def FnExactTakeAheadSaid : Prop := fnExactTakeAheadRow.holds Try.pinned (OpenSpec.ofChange fnExactTakeAheadSpec)

/-- ITS FALSE NEIGHBOUR: 'it returns false'. Refute it at one input. -/
def fnExactTakeAheadWrong : ChangeSpec := { name := "fnExactTakeAhead", fn := fun _ => fun
  | [d1, d2] => { results := [.lit (.bool false)], args := [d1, d2] }
  | _ => none }
def FnExactTakeAheadWrongFalsely : Prop := fnExactTakeAheadRow.holds Try.pinned (OpenSpec.ofChange fnExactTakeAheadWrong)

/-- 'laws.FnExactTakeBack': WHATEVER THE INPUT: true; the input reads as it did. -/
def fnExactTakeBackSpec : ChangeSpec := { name := "fnExactTakeBack", fn := fun _ => fun
  | [d1, d2] => { results := [.lit (.bool true)], args := [d1, d2] }
  | _ => none }
def fnExactTakeBackRow : OpenClaim := { program := "ytaieobidkmihkaa", sum := "5abf5059e80934f07d65509e3286711e44e8a00cd768738847844d734573db46", func := "loop.example/g01179/laws.FnExactTakeBack", spec := "fnExactTakeBack", unfollowed := true, recurses := true, apart := false }
def FnExactTakeBackSaid : Prop := fnExactTakeBackRow.holds Try.pinned (OpenSpec.ofChange fnExactTakeBackSpec)

/-- ITS FALSE NEIGHBOUR: 'it returns false'. Refute it at one input. -/
def fnExactTakeBackWrong : ChangeSpec := { name := "fnExactTakeBack", fn := fun _ => fun
  | [d1, d2] => { results := [.lit (.bool false)], args := [d1, d2] }
  | _ => none }
def FnExactTakeBackWrongFalsely : Prop := fnExactTakeBackRow.holds Try.pinned (OpenSpec.ofChange fnExactTakeBackWrong)

/-- 'laws.FnExactMoveRing': WHATEVER THE INPUT: true; the input reads as it did. -/
def fnExactMoveRingSpec : ChangeSpec := { name := "fnExactMoveRing", fn := fun _ => fun
  | [d1, d2, d3] => { results := [.lit (.bool true)], args := [d1, d2, d3] }
  | _ => none }
def fnExactMoveRingRow : OpenClaim := { program := "ytaieobidkmihkaa", sum := "5abf5059e80934f07d65509e3286711e44e8a00cd768738847844d734573db46", func := "loop.example/g01179/laws.FnExactMoveRing", spec := "fnExactMoveRing", apart := false }
def FnExactMoveRingSaid : Prop := fnExactMoveRingRow.holds Try.pinned (OpenSpec.ofChange fnExactMoveRingSpec)

/-- ITS FALSE NEIGHBOUR: 'it returns false'. Refute it at one input. -/
def fnExactMoveRingWrong : ChangeSpec := { name := "fnExactMoveRing", fn := fun _ => fun
  | [d1, d2, d3] => { results := [.lit (.bool false)], args := [d1, d2, d3] }
  | _ => none }
def FnExactMoveRingWrongFalsely : Prop := fnExactMoveRingRow.holds Try.pinned (OpenSpec.ofChange fnExactMoveRingWrong)

/-- 'laws.FnAppends': WHATEVER THE INPUT: true; the input reads as it did. -/
def fnAppendsSpec : ChangeSpec := { name := "fnAppends", fn := fun _ => fun
  | [d] => { results := [.lit (.bool true)], args := [d] }
  | _ => none }
def fnAppendsRow : OpenClaim := { program := "ytaieobidkmihkaa", sum := "5abf5059e80934f07d65509e3286711e44e8a00cd768738847844d734573db46", func := "loop.example/g01179/laws.FnAppends", spec := "fnAppends", unfollowed := true, recurses := true, apart := false }
def FnAppendsSaid : Prop := fnAppendsRow.holds Try.pinned (OpenSpec.ofChange fnAppendsSpec)

/-- ITS FALSE NEIGHBOUR: 'it returns false'. Refute it at one input. -/
def fnAppendsWrong : ChangeSpec := { name := "fnAppends", fn := fun _ => fun
  | [d] => { results := [.lit (.bool false)], args := [d] }
  | _ => none }
def FnAppendsWrongFalsely : Prop := fnAppendsRow.holds Try.pinned (OpenSpec.ofChange fnAppendsWrong)

/-- 'laws.FnExactAppendBytes': WHATEVER THE INPUT: true; the input reads as it did. -/
def fnExactAppendBytesSpec : ChangeSpec := { name := "fnExactAppendBytes", fn := fun _ => fun
  | [d1, d2, d3] => { results := [.lit (.bool true)], args := [d1, d2, d3] }
  | _ => none }
def fnExactAppendBytesRow : OpenClaim := { program := "ytaieobidkmihkaa", sum := "5abf5059e80934f07d65509e3286711e44e8a00cd768738847844d734573db46", func := "loop.example/g01179/laws.FnExactAppendBytes", spec := "fnExactAppendBytes", unfollowed := true, recurses := true, apart := false }
def FnExactAppendBytesSaid : Prop := fnExactAppendBytesRow.holds Try.pinned (OpenSpec.ofChange fnExactAppendBytesSpec)

/-- ITS FALSE NEIGHBOUR: 'it returns false'. Refute it at one input. -/
def fnExactAppendBytesWrong : ChangeSpec := { name := "fnExactAppendBytes", fn := fun _ => fun
  | [d1, d2, d3] => { results := [.lit (.bool false)], args := [d1, d2, d3] }
  | _ => none }
def FnExactAppendBytesWrongFalsely : Prop := fnExactAppendBytesRow.holds Try.pinned (OpenSpec.ofChange fnExactAppendBytesWrong)

/-- 'laws.FnExactFillWindow': WHATEVER THE INPUT: true; the input reads as it did. -/
def fnExactFillWindowSpec : ChangeSpec := { name := "fnExactFillWindow", fn := fun _ => fun
  | [d1, d2, d3] => { results := [.lit (.bool true)], args := [d1, d2, d3] }
  | _ => none }
def fnExactFillWindowRow : OpenClaim := { program := "ytaieobidkmihkaa", sum := "5abf5059e80934f07d65509e3286711e44e8a00cd768738847844d734573db46", func := "loop.example/g01179/laws.FnExactFillWindow", spec := "fnExactFillWindow", inPlace := ["internal/bytealg.MakeNoZero"], unfollowed := true, recurses := true, apart := false }
def FnExactFillWindowSaid : Prop := fnExactFillWindowRow.holds Try.pinned (OpenSpec.ofChange fnExactFillWindowSpec)

/-- ITS FALSE NEIGHBOUR: 'it returns false'. Refute it at one input. -/
def fnExactFillWindowWrong : ChangeSpec := { name := "fnExactFillWindow", fn := fun _ => fun
  | [d1, d2, d3] => { results := [.lit (.bool false)], args := [d1, d2, d3] }
  | _ => none }
def FnExactFillWindowWrongFalsely : Prop := fnExactFillWindowRow.holds Try.pinned (OpenSpec.ofChange fnExactFillWindowWrong)

/-- 'laws.FnExactAppendWindow': WHATEVER THE INPUT: true; the input reads as it did. -/
def fnExactAppendWindowSpec : ChangeSpec := { name := "fnExactAppendWindow", fn := fun _ => fun
  | [d1, d2, d3] => { results := [.lit (.bool true)], args := [d1, d2, d3] }
  | _ => none }
def fnExactAppendWindowRow : OpenClaim := { program := "ytaieobidkmihkaa", sum := "5abf5059e80934f07d65509e3286711e44e8a00cd768738847844d734573db46", func := "loop.example/g01179/laws.FnExactAppendWindow", spec := "fnExactAppendWindow", unfollowed := true, recurses := true, apart := false }
def FnExactAppendWindowSaid : Prop := fnExactAppendWindowRow.holds Try.pinned (OpenSpec.ofChange fnExactAppendWindowSpec)

/-- ITS FALSE NEIGHBOUR: 'it returns false'. Refute it at one input. -/
def fnExactAppendWindowWrong : ChangeSpec := { name := "fnExactAppendWindow", fn := fun _ => fun
  | [d1, d2, d3] => { results := [.lit (.bool false)], args := [d1, d2, d3] }
  | _ => none }
def FnExactAppendWindowWrongFalsely : Prop := fnExactAppendWindowRow.holds Try.pinned (OpenSpec.ofChange fnExactAppendWindowWrong)

/-- 'laws.FnExactGrowWindow': WHATEVER THE INPUT: true; the input reads as it did. -/
def fnExactGrowWindowSpec : ChangeSpec := { name := "fnExactGrowWindow", fn := fun _ => fun
  | [d1, d2, d3] => { results := [.lit (.bool true)], args := [d1, d2, d3] }
  | _ => none }
def fnExactGrowWindowRow : OpenClaim := { program := "ytaieobidkmihkaa", sum := "5abf5059e80934f07d65509e3286711e44e8a00cd768738847844d734573db46", func := "loop.example/g01179/laws.FnExactGrowWindow", spec := "fnExactGrowWindow", unfollowed := true, recurses := true, apart := false }
def FnExactGrowWindowSaid : Prop := fnExactGrowWindowRow.holds Try.pinned (OpenSpec.ofChange fnExactGrowWindowSpec)

/-- ITS FALSE NEIGHBOUR: 'it returns false'. Refute it at one input. -/
def fnExactGrowWindowWrong : ChangeSpec := { name := "fnExactGrowWindow", fn := fun _ => fun
  | [d1, d2, d3] => { results := [.lit (.bool false)], args := [d1, d2, d3] }
  | _ => none }
def FnExactGrowWindowWrongFalsely : Prop := fnExactGrowWindowRow.holds Try.pinned (OpenSpec.ofChange fnExactGrowWindowWrong)

/-- 'laws.FnExactMoveGap': WHATEVER THE INPUT: true; the input reads as it did. -/
def fnExactMoveGapSpec : ChangeSpec := { name := "fnExactMoveGap", fn := fun _ => fun
  | [d1, d2] => { results := [.lit (.bool true)], args := [d1, d2] }
  | _ => none }
def fnExactMoveGapRow : OpenClaim := { program := "ytaieobidkmihkaa", sum := "5abf5059e80934f07d65509e3286711e44e8a00cd768738847844d734573db46", func := "loop.example/g01179/laws.FnExactMoveGap", spec := "fnExactMoveGap", unfollowed := true, recurses := true, apart := false }
def FnExactMoveGapSaid : Prop := fnExactMoveGapRow.holds Try.pinned (OpenSpec.ofChange fnExactMoveGapSpec)

/-- ITS FALSE NEIGHBOUR: 'it returns false'. Refute it at one input. -/
def fnExactMoveGapWrong : ChangeSpec := { name := "fnExactMoveGap", fn := fun _ => fun
  | [d1, d2] => { results := [.lit (.bool false)], args := [d1, d2] }
  | _ => none }
def FnExactMoveGapWrongFalsely : Prop := fnExactMoveGapRow.holds Try.pinned (OpenSpec.ofChange fnExactMoveGapWrong)

/-- 'laws.FnExactAppendFrame': WHATEVER THE INPUT: true; the input reads as it did. -/
def fnExactAppendFrameSpec : ChangeSpec := { name := "fnExactAppendFrame", fn := fun _ => fun
  | [d1, d2, d3, d4] => { results := [.lit (.bool true)], args := [d1, d2, d3, d4] }
  | _ => none }
def fnExactAppendFrameRow : OpenClaim := { program := "ytaieobidkmihkaa", sum := "5abf5059e80934f07d65509e3286711e44e8a00cd768738847844d734573db46", func := "loop.example/g01179/laws.FnExactAppendFrame", spec := "fnExactAppendFrame", unfollowed := true, recurses := true, apart := false }
def FnExactAppendFrameSaid : Prop := fnExactAppendFrameRow.holds Try.pinned (OpenSpec.ofChange fnExactAppendFrameSpec)

/-- ITS FALSE NEIGHBOUR: 'it returns false'. Refute it at one input. -/
def fnExactAppendFrameWrong : ChangeSpec := { name := "fnExactAppendFrame", fn := fun _ => fun
  | [d1, d2, d3, d4] => { results := [.lit (.bool false)], args := [d1, d2, d3, d4] }
  | _ => none }
def FnExactAppendFrameWrongFalsely : Prop := fnExactAppendFrameRow.holds Try.pinned (OpenSpec.ofChange fnExactAppendFrameWrong)

/- THE SECOND FORM. 'bulk': how many values and letters a reading holds, each counted each time it is reached (what is shared counts as often as it is met; a slice's spare places count too). A statement '..UptoSaid' is the law's where the arguments, and the package variables that the reading takes, are together of bulk at most 1048576: NARROWER than '..Said'. Prove '..Said' where nothing that the law and all that it calls make is longer than what came in: it says more and counts as full. Else prove '..UptoSaid'. A law counts once. -/
mutual
def uptoBulk {H : Type} : DataW H → Nat
  | .lit (.string bytes) => bytes.length + 1
  | .lit _ => 1
  | .nil => 1
  | .ptr d => uptoBulk d + 1
  | .slice elems spare => uptoBulkAll elems + uptoBulkAll spare + 1
  | .agg parts => uptoBulkAll parts + 1
  | .iface _ d => uptoBulk d + 1
  | .map entries => uptoBulkEntries entries + 1
  | .held _ => 1
def uptoBulkAll {H : Type} : List (DataW H) → Nat
  | [] => 0
  | d :: r => uptoBulk d + uptoBulkAll r
def uptoBulkEntries {H : Type} : List (Lit × DataW H) → Nat
  | [] => 0
  | x :: r => uptoBulkEntry x + uptoBulkEntries r
def uptoBulkEntry {H : Type} : Lit × DataW H → Nat
  | (.string bytes, d) => bytes.length + uptoBulk d + 1
  | (_, d) => uptoBulk d + 1
 end
def uptoSmall : (H : Type) → List (DataW H) → Bool := fun _ ds => decide (uptoBulkAll ds ≤ 1048576)
def OpenSpec.upto (s : _root_.Go.ChangeSpec) : _root_.Go.OpenSpec := { _root_.Go.OpenSpec.ofChange s with cond := some uptoSmall }

/-- 'laws.FnExactPushAll', WHERE WHAT IT READS IS OF BULK AT MOST 1048576: true; the input reads as it did. -/
def fnExactPushAllUptoRow : OpenClaim := { program := "ytaieobidkmihkaa", sum := "5abf5059e80934f07d65509e3286711e44e8a00cd768738847844d734573db46", func := "loop.example/g01179/laws.FnExactPushAll", spec := "fnExactPushAll", apart := false, narrowed := true }
def FnExactPushAllUptoSaid : Prop := fnExactPushAllUptoRow.holds Try.pinned (OpenSpec.upto fnExactPushAllSpec)

/-- 'laws.FnExactStraightRing', WHERE WHAT IT READS IS OF BULK AT MOST 1048576: true; the input reads as it did. -/
def fnExactStraightRingUptoRow : OpenClaim := { program := "ytaieobidkmihkaa", sum := "5abf5059e80934f07d65509e3286711e44e8a00cd768738847844d734573db46", func := "loop.example/g01179/laws.FnExactStraightRing", spec := "fnExactStraightRing", apart := false, narrowed := true }
def FnExactStraightRingUptoSaid : Prop := fnExactStraightRingUptoRow.holds Try.pinned (OpenSpec.upto fnExactStraightRingSpec)

/-- 'laws.FnExactTakeAhead', WHERE WHAT IT READS IS OF BULK AT MOST 1048576: true; the input reads as it did. -/
def fnExactTakeAheadUptoRow : OpenClaim := { program := "ytaieobidkmihkaa", sum := "5abf5059e80934f07d65509e3286711e44e8a00cd768738847844d734573db46", func := "loop.example/g01179/laws.FnExactTakeAhead", spec := "fnExactTakeAhead", unfollowed := true, recurses := true, apart := false, narrowed := true }
def FnExactTakeAheadUptoSaid : Prop := fnExactTakeAheadUptoRow.holds Try.pinned (OpenSpec.upto fnExactTakeAheadSpec)

/-- 'laws.FnExactTakeBack', WHERE WHAT IT READS IS OF BULK AT MOST 1048576: true; the input reads as it did. -/
def fnExactTakeBackUptoRow : OpenClaim := { program := "ytaieobidkmihkaa", sum := "5abf5059e80934f07d65509e3286711e44e8a00cd768738847844d734573db46", func := "loop.example/g01179/laws.FnExactTakeBack", spec := "fnExactTakeBack", unfollowed := true, recurses := true, apart := false, narrowed := true }
def FnExactTakeBackUptoSaid : Prop := fnExactTakeBackUptoRow.holds Try.pinned (OpenSpec.upto fnExactTakeBackSpec)

/-- 'laws.FnExactMoveRing', WHERE WHAT IT READS IS OF BULK AT MOST 1048576: true; the input reads as it did. -/
def fnExactMoveRingUptoRow : OpenClaim := { program := "ytaieobidkmihkaa", sum := "5abf5059e80934f07d65509e3286711e44e8a00cd768738847844d734573db46", func := "loop.example/g01179/laws.FnExactMoveRing", spec := "fnExactMoveRing", apart := false, narrowed := true }
def FnExactMoveRingUptoSaid : Prop := fnExactMoveRingUptoRow.holds Try.pinned (OpenSpec.upto fnExactMoveRingSpec)

/-- 'laws.FnAppends', WHERE WHAT IT READS IS OF BULK AT MOST 1048576: true; the input reads as it did. -/
def fnAppendsUptoRow : OpenClaim := { program := "ytaieobidkmihkaa", sum := "5abf5059e80934f07d65509e3286711e44e8a00cd768738847844d734573db46", func := "loop.example/g01179/laws.FnAppends", spec := "fnAppends", unfollowed := true, recurses := true, apart := false, narrowed := true }
def FnAppendsUptoSaid : Prop := fnAppendsUptoRow.holds Try.pinned (OpenSpec.upto fnAppendsSpec)

/-- 'laws.FnExactAppendBytes', WHERE WHAT IT READS IS OF BULK AT MOST 1048576: true; the input reads as it did. -/
def fnExactAppendBytesUptoRow : OpenClaim := { program := "ytaieobidkmihkaa", sum := "5abf5059e80934f07d65509e3286711e44e8a00cd768738847844d734573db46", func := "loop.example/g01179/laws.FnExactAppendBytes", spec := "fnExactAppendBytes", unfollowed := true, recurses := true, apart := false, narrowed := true }
def FnExactAppendBytesUptoSaid : Prop := fnExactAppendBytesUptoRow.holds Try.pinned (OpenSpec.upto fnExactAppendBytesSpec)

/-- 'laws.FnExactFillWindow', WHERE WHAT IT READS IS OF BULK AT MOST 1048576: true; the input reads as it did. -/
def fnExactFillWindowUptoRow : OpenClaim := { program := "ytaieobidkmihkaa", sum := "5abf5059e80934f07d65509e3286711e44e8a00cd768738847844d734573db46", func := "loop.example/g01179/laws.FnExactFillWindow", spec := "fnExactFillWindow", inPlace := ["internal/bytealg.MakeNoZero"], unfollowed := true, recurses := true, apart := false, narrowed := true }
def FnExactFillWindowUptoSaid : Prop := fnExactFillWindowUptoRow.holds Try.pinned (OpenSpec.upto fnExactFillWindowSpec)

/-- 'laws.FnExactAppendWindow', WHERE WHAT IT READS IS OF BULK AT MOST 1048576: true; the input reads as it did. -/
def fnExactAppendWindowUptoRow : OpenClaim := { program := "ytaieobidkmihkaa", sum := "5abf5059e80934f07d65509e3286711e44e8a00cd768738847844d734573db46", func := "loop.example/g01179/laws.FnExactAppendWindow", spec := "fnExactAppendWindow", unfollowed := true, recurses := true, apart := false, narrowed := true }
def FnExactAppendWindowUptoSaid : Prop := fnExactAppendWindowUptoRow.holds Try.pinned (OpenSpec.upto fnExactAppendWindowSpec)

/-- 'laws.FnExactGrowWindow', WHERE WHAT IT READS IS OF BULK AT MOST 1048576: true; the input reads as it did. -/
def fnExactGrowWindowUptoRow : OpenClaim := { program := "ytaieobidkmihkaa", sum := "5abf5059e80934f07d65509e3286711e44e8a00cd768738847844d734573db46", func := "loop.example/g01179/laws.FnExactGrowWindow", spec := "fnExactGrowWindow", unfollowed := true, recurses := true, apart := false, narrowed := true }
def FnExactGrowWindowUptoSaid : Prop := fnExactGrowWindowUptoRow.holds Try.pinned (OpenSpec.upto fnExactGrowWindowSpec)

/-- 'laws.FnExactMoveGap', WHERE WHAT IT READS IS OF BULK AT MOST 1048576: true; the input reads as it did. -/
def fnExactMoveGapUptoRow : OpenClaim := { program := "ytaieobidkmihkaa", sum := "5abf5059e80934f07d65509e3286711e44e8a00cd768738847844d734573db46", func := "loop.example/g01179/laws.FnExactMoveGap", spec := "fnExactMoveGap", unfollowed := true, recurses := true, apart := false, narrowed := true }
def FnExactMoveGapUptoSaid : Prop := fnExactMoveGapUptoRow.holds Try.pinned (OpenSpec.upto fnExactMoveGapSpec)

/-- 'laws.FnExactAppendFrame', WHERE WHAT IT READS IS OF BULK AT MOST 1048576: true; the input reads as it did. -/
def fnExactAppendFrameUptoRow : OpenClaim := { program := "ytaieobidkmihkaa", sum := "5abf5059e80934f07d65509e3286711e44e8a00cd768738847844d734573db46", func := "loop.example/g01179/laws.FnExactAppendFrame", spec := "fnExactAppendFrame", unfollowed := true, recurses := true, apart := false, narrowed := true }
def FnExactAppendFrameUptoSaid : Prop := fnExactAppendFrameUptoRow.holds Try.pinned (OpenSpec.upto fnExactAppendFrameSpec)

end Rows
end Go.Proofs.Ytaieobidkmihkaa
