/-
  No cell of these rows narrows 'for every input' (looked for: loops, veiled, ifaces, maps, wideKeys, modest, calm, conditions, laid).
  DERIVED. THE GIVEN ROWS OF THIS SEAT. 12 by the template 'for every input the law returns true; each argument reads behind the call as it read before'; 0 by the template 'total and deterministic' (their statements: YtpnoakpdmojgeaaTotals.lean).
  GIVEN WITH THE SEED: the statements are not yours to turn. If you find one false, say at which input.
  Laid BY PROGRAM, IN A SANDBOX (cutbox-rows.mjs): the forced cells as the released guide's own fill.sh prints them over the translation 7778f1527557eebd… (all of the seat's roots in one cut). By AI agents, Wed Nov 11 2026. No macro, syntax, notation, axiom, sorry.
-/
import Derived.Test.YtpnoakpdmojgeaaChecked
import GoSem.Claim
import GoSem.ClaimJoined
import GoSem.ClaimMapViews
import Derived.JoinedTies
import Derived.KernelRfl
namespace Go.Proofs.Ytpnoakpdmojgeaa
/- THE CELL 'sum', in the pinned program and in every row, IS THE sha256 OF THE DUMP (.gsa) THAT YtpnoakpdmojgeaaProg.lean LOADS. Nothing in Lean hashes anything: it is a label: what it is worth is what the hold of that sum in a sandbox is worth. -/
noncomputable def Try.pinned : Pinned := { name := "ytpnoakpdmojgeaa", sum := "7778f1527557eebde69f0a3e89e1fce0e763eea4cd82a9b6aa5b26a26fd7494a", checked := Try.checked }
namespace Rows
def none {H : Type} : Left H := { results := [], args := [] }

/-- 'laws.FnExactIsValidRecord': WHATEVER THE INPUT: true; the input reads as it did. -/
def fnExactIsValidRecordSpec : ChangeSpec := { name := "fnExactIsValidRecord", fn := fun _ => fun
  | [d] => { results := [.lit (.bool true)], args := [d] }
  | _ => none }
def fnExactIsValidRecordRow : OpenClaim := { program := "ytpnoakpdmojgeaa", sum := "7778f1527557eebde69f0a3e89e1fce0e763eea4cd82a9b6aa5b26a26fd7494a", func := "loop.example/g01179/laws.FnExactIsValidRecord", spec := "fnExactIsValidRecord", inPlace := ["internal/bytealg.IndexByteString", "internal/bytealg.IndexString"], named := ["internal/bytealg.MaxLen"], apart := false }
def FnExactIsValidRecordSaid : Prop := fnExactIsValidRecordRow.holds Try.pinned (OpenSpec.ofChange fnExactIsValidRecordSpec)

/-- ITS FALSE NEIGHBOUR: 'it returns false'. Refute it at one input. -/
def fnExactIsValidRecordWrong : ChangeSpec := { name := "fnExactIsValidRecord", fn := fun _ => fun
  | [d] => { results := [.lit (.bool false)], args := [d] }
  | _ => none }
def FnExactIsValidRecordWrongFalsely : Prop := fnExactIsValidRecordRow.holds Try.pinned (OpenSpec.ofChange fnExactIsValidRecordWrong)

/-- 'laws.FnExactNewArray': WHATEVER THE INPUT: true; the input reads as it did. -/
def fnExactNewArraySpec : ChangeSpec := { name := "fnExactNewArray", fn := fun _ => fun
  | [d1, d2] => { results := [.lit (.bool true)], args := [d1, d2] }
  | _ => none }
def fnExactNewArrayRow : OpenClaim := { program := "ytpnoakpdmojgeaa", sum := "7778f1527557eebde69f0a3e89e1fce0e763eea4cd82a9b6aa5b26a26fd7494a", func := "loop.example/g01179/laws.FnExactNewArray", spec := "fnExactNewArray", apart := false }
def FnExactNewArraySaid : Prop := fnExactNewArrayRow.holds Try.pinned (OpenSpec.ofChange fnExactNewArraySpec)

/-- ITS FALSE NEIGHBOUR: 'it returns false'. Refute it at one input. -/
def fnExactNewArrayWrong : ChangeSpec := { name := "fnExactNewArray", fn := fun _ => fun
  | [d1, d2] => { results := [.lit (.bool false)], args := [d1, d2] }
  | _ => none }
def FnExactNewArrayWrongFalsely : Prop := fnExactNewArrayRow.holds Try.pinned (OpenSpec.ofChange fnExactNewArrayWrong)

/-- 'laws.FnExactIsDesk': WHATEVER THE INPUT: true; the input reads as it did. -/
def fnExactIsDeskSpec : ChangeSpec := { name := "fnExactIsDesk", fn := fun _ => fun
  | [d] => { results := [.lit (.bool true)], args := [d] }
  | _ => none }
def fnExactIsDeskRow : OpenClaim := { program := "ytpnoakpdmojgeaa", sum := "7778f1527557eebde69f0a3e89e1fce0e763eea4cd82a9b6aa5b26a26fd7494a", func := "loop.example/g01179/laws.FnExactIsDesk", spec := "fnExactIsDesk", unfollowed := true, recurses := true, apart := false }
def FnExactIsDeskSaid : Prop := fnExactIsDeskRow.holds Try.pinned (OpenSpec.ofChange fnExactIsDeskSpec)

/-- ITS FALSE NEIGHBOUR: 'it returns false'. Refute it at one input. -/
def fnExactIsDeskWrong : ChangeSpec := { name := "fnExactIsDesk", fn := fun _ => fun
  | [d] => { results := [.lit (.bool false)], args := [d] }
  | _ => none }
def FnExactIsDeskWrongFalsely : Prop := fnExactIsDeskRow.holds Try.pinned (OpenSpec.ofChange fnExactIsDeskWrong)

/-- 'laws.FnExactWriteAt': WHATEVER THE INPUT: true; the input reads as it did. -/
def fnExactWriteAtSpec : ChangeSpec := { name := "fnExactWriteAt", fn := fun _ => fun
  | [d1, d2, d3, d4] => { results := [.lit (.bool true)], args := [d1, d2, d3, d4] }
  | _ => none }
def fnExactWriteAtRow : OpenClaim := { program := "ytpnoakpdmojgeaa", sum := "7778f1527557eebde69f0a3e89e1fce0e763eea4cd82a9b6aa5b26a26fd7494a", func := "loop.example/g01179/laws.FnExactWriteAt", spec := "fnExactWriteAt", unfollowed := true, recurses := true, apart := false }
def FnExactWriteAtSaid : Prop := fnExactWriteAtRow.holds Try.pinned (OpenSpec.ofChange fnExactWriteAtSpec)

/-- ITS FALSE NEIGHBOUR: 'it returns false'. Refute it at one input. -/
def fnExactWriteAtWrong : ChangeSpec := { name := "fnExactWriteAt", fn := fun _ => fun
  | [d1, d2, d3, d4] => { results := [.lit (.bool false)], args := [d1, d2, d3, d4] }
  | _ => none }
def FnExactWriteAtWrongFalsely : Prop := fnExactWriteAtRow.holds Try.pinned (OpenSpec.ofChange fnExactWriteAtWrong)

/-- 'laws.FnExactReverseWindow': WHATEVER THE INPUT: true; the input reads as it did. -/
def fnExactReverseWindowSpec : ChangeSpec := { name := "fnExactReverseWindow", fn := fun _ => fun
  | [d1, d2] => { results := [.lit (.bool true)], args := [d1, d2] }
  | _ => none }
def fnExactReverseWindowRow : OpenClaim := { program := "ytpnoakpdmojgeaa", sum := "7778f1527557eebde69f0a3e89e1fce0e763eea4cd82a9b6aa5b26a26fd7494a", func := "loop.example/g01179/laws.FnExactReverseWindow", spec := "fnExactReverseWindow", unfollowed := true, recurses := true, apart := false }
def FnExactReverseWindowSaid : Prop := fnExactReverseWindowRow.holds Try.pinned (OpenSpec.ofChange fnExactReverseWindowSpec)

/-- ITS FALSE NEIGHBOUR: 'it returns false'. Refute it at one input. -/
def fnExactReverseWindowWrong : ChangeSpec := { name := "fnExactReverseWindow", fn := fun _ => fun
  | [d1, d2] => { results := [.lit (.bool false)], args := [d1, d2] }
  | _ => none }
def FnExactReverseWindowWrongFalsely : Prop := fnExactReverseWindowRow.holds Try.pinned (OpenSpec.ofChange fnExactReverseWindowWrong)

/-- 'laws.FnExactNewGap': WHATEVER THE INPUT: true; the input reads as it did. -/
def fnExactNewGapSpec : ChangeSpec := { name := "fnExactNewGap", fn := fun _ => fun
  | [d1, d2] => { results := [.lit (.bool true)], args := [d1, d2] }
  | _ => none }
def fnExactNewGapRow : OpenClaim := { program := "ytpnoakpdmojgeaa", sum := "7778f1527557eebde69f0a3e89e1fce0e763eea4cd82a9b6aa5b26a26fd7494a", func := "loop.example/g01179/laws.FnExactNewGap", spec := "fnExactNewGap", apart := false }
def FnExactNewGapSaid : Prop := fnExactNewGapRow.holds Try.pinned (OpenSpec.ofChange fnExactNewGapSpec)

/-- ITS FALSE NEIGHBOUR: 'it returns false'. Refute it at one input. -/
def fnExactNewGapWrong : ChangeSpec := { name := "fnExactNewGap", fn := fun _ => fun
  | [d1, d2] => { results := [.lit (.bool false)], args := [d1, d2] }
  | _ => none }
def FnExactNewGapWrongFalsely : Prop := fnExactNewGapRow.holds Try.pinned (OpenSpec.ofChange fnExactNewGapWrong)

/-- 'laws.FnTreading': WHATEVER THE INPUT: true; the input reads as it did. -/
def fnTreadingSpec : ChangeSpec := { name := "fnTreading", fn := fun _ => fun
  | [d] => { results := [.lit (.bool true)], args := [d] }
  | _ => none }
def fnTreadingRow : OpenClaim := { program := "ytpnoakpdmojgeaa", sum := "7778f1527557eebde69f0a3e89e1fce0e763eea4cd82a9b6aa5b26a26fd7494a", func := "loop.example/g01179/laws.FnTreading", spec := "fnTreading", unfollowed := true, recurses := true, apart := false }
def FnTreadingSaid : Prop := fnTreadingRow.holds Try.pinned (OpenSpec.ofChange fnTreadingSpec)

/-- ITS FALSE NEIGHBOUR: 'it returns false'. Refute it at one input. -/
def fnTreadingWrong : ChangeSpec := { name := "fnTreading", fn := fun _ => fun
  | [d] => { results := [.lit (.bool false)], args := [d] }
  | _ => none }
def FnTreadingWrongFalsely : Prop := fnTreadingRow.holds Try.pinned (OpenSpec.ofChange fnTreadingWrong)

/-- 'laws.FnExactIsMachine': WHATEVER THE INPUT: true; the input reads as it did. -/
def fnExactIsMachineSpec : ChangeSpec := { name := "fnExactIsMachine", fn := fun _ => fun
  | [d] => { results := [.lit (.bool true)], args := [d] }
  | _ => none }
def fnExactIsMachineRow : OpenClaim := { program := "ytpnoakpdmojgeaa", sum := "7778f1527557eebde69f0a3e89e1fce0e763eea4cd82a9b6aa5b26a26fd7494a", func := "loop.example/g01179/laws.FnExactIsMachine", spec := "fnExactIsMachine", apart := false }
def FnExactIsMachineSaid : Prop := fnExactIsMachineRow.holds Try.pinned (OpenSpec.ofChange fnExactIsMachineSpec)

/-- ITS FALSE NEIGHBOUR: 'it returns false'. Refute it at one input. -/
def fnExactIsMachineWrong : ChangeSpec := { name := "fnExactIsMachine", fn := fun _ => fun
  | [d] => { results := [.lit (.bool false)], args := [d] }
  | _ => none }
def FnExactIsMachineWrongFalsely : Prop := fnExactIsMachineRow.holds Try.pinned (OpenSpec.ofChange fnExactIsMachineWrong)

/-- 'laws.FnExactCopyInto': WHATEVER THE INPUT: true; the input reads as it did. -/
def fnExactCopyIntoSpec : ChangeSpec := { name := "fnExactCopyInto", fn := fun _ => fun
  | [d1, d2, d3] => { results := [.lit (.bool true)], args := [d1, d2, d3] }
  | _ => none }
def fnExactCopyIntoRow : OpenClaim := { program := "ytpnoakpdmojgeaa", sum := "7778f1527557eebde69f0a3e89e1fce0e763eea4cd82a9b6aa5b26a26fd7494a", func := "loop.example/g01179/laws.FnExactCopyInto", spec := "fnExactCopyInto", unfollowed := true, recurses := true, apart := false }
def FnExactCopyIntoSaid : Prop := fnExactCopyIntoRow.holds Try.pinned (OpenSpec.ofChange fnExactCopyIntoSpec)

/-- ITS FALSE NEIGHBOUR: 'it returns false'. Refute it at one input. -/
def fnExactCopyIntoWrong : ChangeSpec := { name := "fnExactCopyInto", fn := fun _ => fun
  | [d1, d2, d3] => { results := [.lit (.bool false)], args := [d1, d2, d3] }
  | _ => none }
def FnExactCopyIntoWrongFalsely : Prop := fnExactCopyIntoRow.holds Try.pinned (OpenSpec.ofChange fnExactCopyIntoWrong)

/-- 'laws.FnExactTurnWindow': WHATEVER THE INPUT: true; the input reads as it did. -/
def fnExactTurnWindowSpec : ChangeSpec := { name := "fnExactTurnWindow", fn := fun _ => fun
  | [d1, d2, d3] => { results := [.lit (.bool true)], args := [d1, d2, d3] }
  | _ => none }
def fnExactTurnWindowRow : OpenClaim := { program := "ytpnoakpdmojgeaa", sum := "7778f1527557eebde69f0a3e89e1fce0e763eea4cd82a9b6aa5b26a26fd7494a", func := "loop.example/g01179/laws.FnExactTurnWindow", spec := "fnExactTurnWindow", unfollowed := true, recurses := true, apart := false }
def FnExactTurnWindowSaid : Prop := fnExactTurnWindowRow.holds Try.pinned (OpenSpec.ofChange fnExactTurnWindowSpec)

/-- ITS FALSE NEIGHBOUR: 'it returns false'. Refute it at one input. -/
def fnExactTurnWindowWrong : ChangeSpec := { name := "fnExactTurnWindow", fn := fun _ => fun
  | [d1, d2, d3] => { results := [.lit (.bool false)], args := [d1, d2, d3] }
  | _ => none }
def FnExactTurnWindowWrongFalsely : Prop := fnExactTurnWindowRow.holds Try.pinned (OpenSpec.ofChange fnExactTurnWindowWrong)

/-- 'laws.FnExactPushFront': WHATEVER THE INPUT: true; the input reads as it did. -/
def fnExactPushFrontSpec : ChangeSpec := { name := "fnExactPushFront", fn := fun _ => fun
  | [d1, d2, d3] => { results := [.lit (.bool true)], args := [d1, d2, d3] }
  | _ => none }
def fnExactPushFrontRow : OpenClaim := { program := "ytpnoakpdmojgeaa", sum := "7778f1527557eebde69f0a3e89e1fce0e763eea4cd82a9b6aa5b26a26fd7494a", func := "loop.example/g01179/laws.FnExactPushFront", spec := "fnExactPushFront", apart := false }
def FnExactPushFrontSaid : Prop := fnExactPushFrontRow.holds Try.pinned (OpenSpec.ofChange fnExactPushFrontSpec)

/-- ITS FALSE NEIGHBOUR: 'it returns false'. Refute it at one input. -/
def fnExactPushFrontWrong : ChangeSpec := { name := "fnExactPushFront", fn := fun _ => fun
  | [d1, d2, d3] => { results := [.lit (.bool false)], args := [d1, d2, d3] }
  | _ => none }
def FnExactPushFrontWrongFalsely : Prop := fnExactPushFrontRow.holds Try.pinned (OpenSpec.ofChange fnExactPushFrontWrong)

/-- 'laws.FnExactPushBack': WHATEVER THE INPUT: true; the input reads as it did. -/
def fnExactPushBackSpec : ChangeSpec := { name := "fnExactPushBack", fn := fun _ => fun
  | [d1, d2, d3] => { results := [.lit (.bool true)], args := [d1, d2, d3] }
  | _ => none }
def fnExactPushBackRow : OpenClaim := { program := "ytpnoakpdmojgeaa", sum := "7778f1527557eebde69f0a3e89e1fce0e763eea4cd82a9b6aa5b26a26fd7494a", func := "loop.example/g01179/laws.FnExactPushBack", spec := "fnExactPushBack", apart := false }
def FnExactPushBackSaid : Prop := fnExactPushBackRow.holds Try.pinned (OpenSpec.ofChange fnExactPushBackSpec)

/-- ITS FALSE NEIGHBOUR: 'it returns false'. Refute it at one input. -/
def fnExactPushBackWrong : ChangeSpec := { name := "fnExactPushBack", fn := fun _ => fun
  | [d1, d2, d3] => { results := [.lit (.bool false)], args := [d1, d2, d3] }
  | _ => none }
def FnExactPushBackWrongFalsely : Prop := fnExactPushBackRow.holds Try.pinned (OpenSpec.ofChange fnExactPushBackWrong)

/- THE SECOND FORM. 'bulk': how many values and letters a reading holds, each counted each time it is reached (what is shared counts as often as it is met; a slice's spare places count too). A statement '..UptoSaid' is the law's where the arguments, and the package variables that the reading takes, are together of bulk at most 1048576: NARROWER than '..Said'. Prove '..Said' where nothing that the law and all that it calls make is longer than what came in: it says more and counts as full. Else prove '..UptoSaid'. A law counts once. -/
mutual
def uptoBulk {H : Type} : DataW H → Nat
  | .lit (.string bytes) => bytes.length + 1
  | .lit _ => 1
  | .nil => 1
  | .ptr d => uptoBulk d + 1
  | .slice elems spare => uptoBulkAll elems + uptoBulkAll spare + 1
  | .agg parts => uptoBulkAll parts + 1
  | .iface _ d => uptoBulk d + 1
  | .map entries => uptoBulkEntries entries + 1
  | .held _ => 1
def uptoBulkAll {H : Type} : List (DataW H) → Nat
  | [] => 0
  | d :: r => uptoBulk d + uptoBulkAll r
def uptoBulkEntries {H : Type} : List (Lit × DataW H) → Nat
  | [] => 0
  | x :: r => uptoBulkEntry x + uptoBulkEntries r
def uptoBulkEntry {H : Type} : Lit × DataW H → Nat
  | (.string bytes, d) => bytes.length + uptoBulk d + 1
  | (_, d) => uptoBulk d + 1
 end
def uptoSmall : (H : Type) → List (DataW H) → Bool := fun _ ds => decide (uptoBulkAll ds ≤ 1048576)
def OpenSpec.upto (s : _root_.Go.ChangeSpec) : _root_.Go.OpenSpec := { _root_.Go.OpenSpec.ofChange s with cond := some uptoSmall }

/-- 'laws.FnExactIsValidRecord', WHERE WHAT IT READS IS OF BULK AT MOST 1048576: true; the input reads as it did. -/
def fnExactIsValidRecordUptoRow : OpenClaim := { program := "ytpnoakpdmojgeaa", sum := "7778f1527557eebde69f0a3e89e1fce0e763eea4cd82a9b6aa5b26a26fd7494a", func := "loop.example/g01179/laws.FnExactIsValidRecord", spec := "fnExactIsValidRecord", inPlace := ["internal/bytealg.IndexByteString", "internal/bytealg.IndexString"], named := ["internal/bytealg.MaxLen"], apart := false, narrowed := true }
def FnExactIsValidRecordUptoSaid : Prop := fnExactIsValidRecordUptoRow.holds Try.pinned (OpenSpec.upto fnExactIsValidRecordSpec)

/-- 'laws.FnExactNewArray', WHERE WHAT IT READS IS OF BULK AT MOST 1048576: true; the input reads as it did. -/
def fnExactNewArrayUptoRow : OpenClaim := { program := "ytpnoakpdmojgeaa", sum := "7778f1527557eebde69f0a3e89e1fce0e763eea4cd82a9b6aa5b26a26fd7494a", func := "loop.example/g01179/laws.FnExactNewArray", spec := "fnExactNewArray", apart := false, narrowed := true }
def FnExactNewArrayUptoSaid : Prop := fnExactNewArrayUptoRow.holds Try.pinned (OpenSpec.upto fnExactNewArraySpec)

/-- 'laws.FnExactIsDesk', WHERE WHAT IT READS IS OF BULK AT MOST 1048576: true; the input reads as it did. -/
def fnExactIsDeskUptoRow : OpenClaim := { program := "ytpnoakpdmojgeaa", sum := "7778f1527557eebde69f0a3e89e1fce0e763eea4cd82a9b6aa5b26a26fd7494a", func := "loop.example/g01179/laws.FnExactIsDesk", spec := "fnExactIsDesk", unfollowed := true, recurses := true, apart := false, narrowed := true }
def FnExactIsDeskUptoSaid : Prop := fnExactIsDeskUptoRow.holds Try.pinned (OpenSpec.upto fnExactIsDeskSpec)

/-- 'laws.FnExactWriteAt', WHERE WHAT IT READS IS OF BULK AT MOST 1048576: true; the input reads as it did. -/
def fnExactWriteAtUptoRow : OpenClaim := { program := "ytpnoakpdmojgeaa", sum := "7778f1527557eebde69f0a3e89e1fce0e763eea4cd82a9b6aa5b26a26fd7494a", func := "loop.example/g01179/laws.FnExactWriteAt", spec := "fnExactWriteAt", unfollowed := true, recurses := true, apart := false, narrowed := true }
def FnExactWriteAtUptoSaid : Prop := fnExactWriteAtUptoRow.holds Try.pinned (OpenSpec.upto fnExactWriteAtSpec)

/-- 'laws.FnExactReverseWindow', WHERE WHAT IT READS IS OF BULK AT MOST 1048576: true; the input reads as it did. -/
def fnExactReverseWindowUptoRow : OpenClaim := { program := "ytpnoakpdmojgeaa", sum := "7778f1527557eebde69f0a3e89e1fce0e763eea4cd82a9b6aa5b26a26fd7494a", func := "loop.example/g01179/laws.FnExactReverseWindow", spec := "fnExactReverseWindow", unfollowed := true, recurses := true, apart := false, narrowed := true }
def FnExactReverseWindowUptoSaid : Prop := fnExactReverseWindowUptoRow.holds Try.pinned (OpenSpec.upto fnExactReverseWindowSpec)

/-- 'laws.FnExactNewGap', WHERE WHAT IT READS IS OF BULK AT MOST 1048576: true; the input reads as it did. -/
def fnExactNewGapUptoRow : OpenClaim := { program := "ytpnoakpdmojgeaa", sum := "7778f1527557eebde69f0a3e89e1fce0e763eea4cd82a9b6aa5b26a26fd7494a", func := "loop.example/g01179/laws.FnExactNewGap", spec := "fnExactNewGap", apart := false, narrowed := true }
def FnExactNewGapUptoSaid : Prop := fnExactNewGapUptoRow.holds Try.pinned (OpenSpec.upto fnExactNewGapSpec)

/-- 'laws.FnTreading', WHERE WHAT IT READS IS OF BULK AT MOST 1048576: true; the input reads as it did. -/
def fnTreadingUptoRow : OpenClaim := { program := "ytpnoakpdmojgeaa", sum := "7778f1527557eebde69f0a3e89e1fce0e763eea4cd82a9b6aa5b26a26fd7494a", func := "loop.example/g01179/laws.FnTreading", spec := "fnTreading", unfollowed := true, recurses := true, apart := false, narrowed := true }
def FnTreadingUptoSaid : Prop := fnTreadingUptoRow.holds Try.pinned (OpenSpec.upto fnTreadingSpec)

/-- 'laws.FnExactIsMachine', WHERE WHAT IT READS IS OF BULK AT MOST 1048576: true; the input reads as it did. -/
def fnExactIsMachineUptoRow : OpenClaim := { program := "ytpnoakpdmojgeaa", sum := "7778f1527557eebde69f0a3e89e1fce0e763eea4cd82a9b6aa5b26a26fd7494a", func := "loop.example/g01179/laws.FnExactIsMachine", spec := "fnExactIsMachine", apart := false, narrowed := true }
def FnExactIsMachineUptoSaid : Prop := fnExactIsMachineUptoRow.holds Try.pinned (OpenSpec.upto fnExactIsMachineSpec)

/-- 'laws.FnExactCopyInto', WHERE WHAT IT READS IS OF BULK AT MOST 1048576: true; the input reads as it did. -/
def fnExactCopyIntoUptoRow : OpenClaim := { program := "ytpnoakpdmojgeaa", sum := "7778f1527557eebde69f0a3e89e1fce0e763eea4cd82a9b6aa5b26a26fd7494a", func := "loop.example/g01179/laws.FnExactCopyInto", spec := "fnExactCopyInto", unfollowed := true, recurses := true, apart := false, narrowed := true }
def FnExactCopyIntoUptoSaid : Prop := fnExactCopyIntoUptoRow.holds Try.pinned (OpenSpec.upto fnExactCopyIntoSpec)

/-- 'laws.FnExactTurnWindow', WHERE WHAT IT READS IS OF BULK AT MOST 1048576: true; the input reads as it did. -/
def fnExactTurnWindowUptoRow : OpenClaim := { program := "ytpnoakpdmojgeaa", sum := "7778f1527557eebde69f0a3e89e1fce0e763eea4cd82a9b6aa5b26a26fd7494a", func := "loop.example/g01179/laws.FnExactTurnWindow", spec := "fnExactTurnWindow", unfollowed := true, recurses := true, apart := false, narrowed := true }
def FnExactTurnWindowUptoSaid : Prop := fnExactTurnWindowUptoRow.holds Try.pinned (OpenSpec.upto fnExactTurnWindowSpec)

/-- 'laws.FnExactPushFront', WHERE WHAT IT READS IS OF BULK AT MOST 1048576: true; the input reads as it did. -/
def fnExactPushFrontUptoRow : OpenClaim := { program := "ytpnoakpdmojgeaa", sum := "7778f1527557eebde69f0a3e89e1fce0e763eea4cd82a9b6aa5b26a26fd7494a", func := "loop.example/g01179/laws.FnExactPushFront", spec := "fnExactPushFront", apart := false, narrowed := true }
def FnExactPushFrontUptoSaid : Prop := fnExactPushFrontUptoRow.holds Try.pinned (OpenSpec.upto fnExactPushFrontSpec)

/-- 'laws.FnExactPushBack', WHERE WHAT IT READS IS OF BULK AT MOST 1048576: true; the input reads as it did. -/
def fnExactPushBackUptoRow : OpenClaim := { program := "ytpnoakpdmojgeaa", sum := "7778f1527557eebde69f0a3e89e1fce0e763eea4cd82a9b6aa5b26a26fd7494a", func := "loop.example/g01179/laws.FnExactPushBack", spec := "fnExactPushBack", apart := false, narrowed := true }
def FnExactPushBackUptoSaid : Prop := fnExactPushBackUptoRow.holds Try.pinned (OpenSpec.upto fnExactPushBackSpec)

end Rows
end Go.Proofs.Ytpnoakpdmojgeaa
