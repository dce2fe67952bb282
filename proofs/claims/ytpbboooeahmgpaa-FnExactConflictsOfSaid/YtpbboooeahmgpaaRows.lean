/-
  No cell of these rows narrows 'for every input' (looked for: loops, veiled, ifaces, maps, wideKeys, modest, calm, conditions, laid).
  DERIVED. THE GIVEN ROWS OF THIS SEAT. 9 by the template 'for every input the law returns true; each argument reads behind the call as it read before'; 0 by the template 'total and deterministic' (their statements: YtpbboooeahmgpaaTotals.lean).
  GIVEN WITH THE SEED: the statements are not yours to turn. If you find one false, say at which input.
  Laid BY PROGRAM, IN A SANDBOX (cutbox-rows.mjs): the forced cells as the released guide's own fill.sh prints them over the translation 1f1cb6633d6cbb84… (all of the seat's roots in one cut). By AI agents, Wed Nov 11 2026. No macro, syntax, notation, axiom, sorry.
-/
import Derived.Test.YtpbboooeahmgpaaChecked
import GoSem.Claim
import GoSem.ClaimJoined
import GoSem.ClaimMapViews
import Derived.JoinedTies
import Derived.KernelRfl
namespace Go.Proofs.Ytpbboooeahmgpaa
/- THE CELL 'sum', in the pinned program and in every row, IS THE sha256 OF THE DUMP (.gsa) THAT YtpbboooeahmgpaaProg.lean LOADS. Nothing in Lean hashes anything: it is a label: what it is worth is what the hold of that sum in a sandbox is worth. -/
noncomputable def Try.pinned : Pinned := { name := "ytpbboooeahmgpaa", sum := "1f1cb6633d6cbb84836f48a7d3f0c19776e8f464905ec7acb2deffd0ddbe098c", checked := Try.checked }
namespace Rows
def none {H : Type} : Left H := { results := [], args := [] }

/-- 'laws.FnLoanParts': WHATEVER THE INPUT: true; the input reads as it did. -/
def fnLoanPartsSpec : ChangeSpec := { name := "fnLoanParts", fn := fun _ => fun
  | [d] => { results := [.lit (.bool true)], args := [d] }
  | _ => none }
def fnLoanPartsRow : OpenClaim := { program := "ytpbboooeahmgpaa", sum := "1f1cb6633d6cbb84836f48a7d3f0c19776e8f464905ec7acb2deffd0ddbe098c", func := "loop.example/g01179/laws.FnLoanParts", spec := "fnLoanParts", unfollowed := true, recurses := true, apart := false }
def FnLoanPartsSaid : Prop := fnLoanPartsRow.holds Try.pinned (OpenSpec.ofChange fnLoanPartsSpec)

/-- ITS FALSE NEIGHBOUR: 'it returns false'. Refute it at one input. -/
def fnLoanPartsWrong : ChangeSpec := { name := "fnLoanParts", fn := fun _ => fun
  | [d] => { results := [.lit (.bool false)], args := [d] }
  | _ => none }
def FnLoanPartsWrongFalsely : Prop := fnLoanPartsRow.holds Try.pinned (OpenSpec.ofChange fnLoanPartsWrong)

/-- 'laws.FnExactDelayOf': WHATEVER THE INPUT: true; the input reads as it did. -/
def fnExactDelayOfSpec : ChangeSpec := { name := "fnExactDelayOf", fn := fun _ => fun
  | [d1, d2, d3] => { results := [.lit (.bool true)], args := [d1, d2, d3] }
  | _ => none }
def fnExactDelayOfRow : OpenClaim := { program := "ytpbboooeahmgpaa", sum := "1f1cb6633d6cbb84836f48a7d3f0c19776e8f464905ec7acb2deffd0ddbe098c", func := "loop.example/g01179/laws.FnExactDelayOf", spec := "fnExactDelayOf", unfollowed := true, recurses := true, apart := false }
def FnExactDelayOfSaid : Prop := fnExactDelayOfRow.holds Try.pinned (OpenSpec.ofChange fnExactDelayOfSpec)

/-- ITS FALSE NEIGHBOUR: 'it returns false'. Refute it at one input. -/
def fnExactDelayOfWrong : ChangeSpec := { name := "fnExactDelayOf", fn := fun _ => fun
  | [d1, d2, d3] => { results := [.lit (.bool false)], args := [d1, d2, d3] }
  | _ => none }
def FnExactDelayOfWrongFalsely : Prop := fnExactDelayOfRow.holds Try.pinned (OpenSpec.ofChange fnExactDelayOfWrong)

/-- 'laws.FnExactRunClean': WHATEVER THE INPUT: true; the input reads as it did. -/
def fnExactRunCleanSpec : ChangeSpec := { name := "fnExactRunClean", fn := fun _ => fun
  | [d1, d2] => { results := [.lit (.bool true)], args := [d1, d2] }
  | _ => none }
def fnExactRunCleanRow : OpenClaim := { program := "ytpbboooeahmgpaa", sum := "1f1cb6633d6cbb84836f48a7d3f0c19776e8f464905ec7acb2deffd0ddbe098c", func := "loop.example/g01179/laws.FnExactRunClean", spec := "fnExactRunClean", unfollowed := true, recurses := true, apart := false }
def FnExactRunCleanSaid : Prop := fnExactRunCleanRow.holds Try.pinned (OpenSpec.ofChange fnExactRunCleanSpec)

/-- ITS FALSE NEIGHBOUR: 'it returns false'. Refute it at one input. -/
def fnExactRunCleanWrong : ChangeSpec := { name := "fnExactRunClean", fn := fun _ => fun
  | [d1, d2] => { results := [.lit (.bool false)], args := [d1, d2] }
  | _ => none }
def FnExactRunCleanWrongFalsely : Prop := fnExactRunCleanRow.holds Try.pinned (OpenSpec.ofChange fnExactRunCleanWrong)

/-- 'laws.FnExactHeldAt': WHATEVER THE INPUT: true; the input reads as it did. -/
def fnExactHeldAtSpec : ChangeSpec := { name := "fnExactHeldAt", fn := fun _ => fun
  | [d1, d2, d3] => { results := [.lit (.bool true)], args := [d1, d2, d3] }
  | _ => none }
def fnExactHeldAtRow : OpenClaim := { program := "ytpbboooeahmgpaa", sum := "1f1cb6633d6cbb84836f48a7d3f0c19776e8f464905ec7acb2deffd0ddbe098c", func := "loop.example/g01179/laws.FnExactHeldAt", spec := "fnExactHeldAt", unfollowed := true, recurses := true, apart := false }
def FnExactHeldAtSaid : Prop := fnExactHeldAtRow.holds Try.pinned (OpenSpec.ofChange fnExactHeldAtSpec)

/-- ITS FALSE NEIGHBOUR: 'it returns false'. Refute it at one input. -/
def fnExactHeldAtWrong : ChangeSpec := { name := "fnExactHeldAt", fn := fun _ => fun
  | [d1, d2, d3] => { results := [.lit (.bool false)], args := [d1, d2, d3] }
  | _ => none }
def FnExactHeldAtWrongFalsely : Prop := fnExactHeldAtRow.holds Try.pinned (OpenSpec.ofChange fnExactHeldAtWrong)

/-- 'laws.FnExactCanLend': WHATEVER THE INPUT: true; the input reads as it did. -/
def fnExactCanLendSpec : ChangeSpec := { name := "fnExactCanLend", fn := fun _ => fun
  | [d1, d2, d3] => { results := [.lit (.bool true)], args := [d1, d2, d3] }
  | _ => none }
def fnExactCanLendRow : OpenClaim := { program := "ytpbboooeahmgpaa", sum := "1f1cb6633d6cbb84836f48a7d3f0c19776e8f464905ec7acb2deffd0ddbe098c", func := "loop.example/g01179/laws.FnExactCanLend", spec := "fnExactCanLend", unfollowed := true, recurses := true, apart := false }
def FnExactCanLendSaid : Prop := fnExactCanLendRow.holds Try.pinned (OpenSpec.ofChange fnExactCanLendSpec)

/-- ITS FALSE NEIGHBOUR: 'it returns false'. Refute it at one input. -/
def fnExactCanLendWrong : ChangeSpec := { name := "fnExactCanLend", fn := fun _ => fun
  | [d1, d2, d3] => { results := [.lit (.bool false)], args := [d1, d2, d3] }
  | _ => none }
def FnExactCanLendWrongFalsely : Prop := fnExactCanLendRow.holds Try.pinned (OpenSpec.ofChange fnExactCanLendWrong)

/-- 'laws.FnExactFirstClash': WHATEVER THE INPUT: true; the input reads as it did. -/
def fnExactFirstClashSpec : ChangeSpec := { name := "fnExactFirstClash", fn := fun _ => fun
  | [d1, d2] => { results := [.lit (.bool true)], args := [d1, d2] }
  | _ => none }
def fnExactFirstClashRow : OpenClaim := { program := "ytpbboooeahmgpaa", sum := "1f1cb6633d6cbb84836f48a7d3f0c19776e8f464905ec7acb2deffd0ddbe098c", func := "loop.example/g01179/laws.FnExactFirstClash", spec := "fnExactFirstClash", unfollowed := true, recurses := true, apart := false }
def FnExactFirstClashSaid : Prop := fnExactFirstClashRow.holds Try.pinned (OpenSpec.ofChange fnExactFirstClashSpec)

/-- ITS FALSE NEIGHBOUR: 'it returns false'. Refute it at one input. -/
def fnExactFirstClashWrong : ChangeSpec := { name := "fnExactFirstClash", fn := fun _ => fun
  | [d1, d2] => { results := [.lit (.bool false)], args := [d1, d2] }
  | _ => none }
def FnExactFirstClashWrongFalsely : Prop := fnExactFirstClashRow.holds Try.pinned (OpenSpec.ofChange fnExactFirstClashWrong)

/-- 'laws.FnExactLendersOf': WHATEVER THE INPUT: true; the input reads as it did. -/
def fnExactLendersOfSpec : ChangeSpec := { name := "fnExactLendersOf", fn := fun _ => fun
  | [d1, d2, d3] => { results := [.lit (.bool true)], args := [d1, d2, d3] }
  | _ => none }
def fnExactLendersOfRow : OpenClaim := { program := "ytpbboooeahmgpaa", sum := "1f1cb6633d6cbb84836f48a7d3f0c19776e8f464905ec7acb2deffd0ddbe098c", func := "loop.example/g01179/laws.FnExactLendersOf", spec := "fnExactLendersOf", unfollowed := true, recurses := true, apart := false }
def FnExactLendersOfSaid : Prop := fnExactLendersOfRow.holds Try.pinned (OpenSpec.ofChange fnExactLendersOfSpec)

/-- ITS FALSE NEIGHBOUR: 'it returns false'. Refute it at one input. -/
def fnExactLendersOfWrong : ChangeSpec := { name := "fnExactLendersOf", fn := fun _ => fun
  | [d1, d2, d3] => { results := [.lit (.bool false)], args := [d1, d2, d3] }
  | _ => none }
def FnExactLendersOfWrongFalsely : Prop := fnExactLendersOfRow.holds Try.pinned (OpenSpec.ofChange fnExactLendersOfWrong)

/-- 'laws.FnExactConflictsOf': WHATEVER THE INPUT: true; the input reads as it did. -/
def fnExactConflictsOfSpec : ChangeSpec := { name := "fnExactConflictsOf", fn := fun _ => fun
  | [d1, d2] => { results := [.lit (.bool true)], args := [d1, d2] }
  | _ => none }
def fnExactConflictsOfRow : OpenClaim := { program := "ytpbboooeahmgpaa", sum := "1f1cb6633d6cbb84836f48a7d3f0c19776e8f464905ec7acb2deffd0ddbe098c", func := "loop.example/g01179/laws.FnExactConflictsOf", spec := "fnExactConflictsOf", unfollowed := true, recurses := true, apart := false }
def FnExactConflictsOfSaid : Prop := fnExactConflictsOfRow.holds Try.pinned (OpenSpec.ofChange fnExactConflictsOfSpec)

/-- ITS FALSE NEIGHBOUR: 'it returns false'. Refute it at one input. -/
def fnExactConflictsOfWrong : ChangeSpec := { name := "fnExactConflictsOf", fn := fun _ => fun
  | [d1, d2] => { results := [.lit (.bool false)], args := [d1, d2] }
  | _ => none }
def FnExactConflictsOfWrongFalsely : Prop := fnExactConflictsOfRow.holds Try.pinned (OpenSpec.ofChange fnExactConflictsOfWrong)

/-- 'laws.FnLenders': WHATEVER THE INPUT: true; the input reads as it did. -/
def fnLendersSpec : ChangeSpec := { name := "fnLenders", fn := fun _ => fun
  | [d] => { results := [.lit (.bool true)], args := [d] }
  | _ => none }
def fnLendersRow : OpenClaim := { program := "ytpbboooeahmgpaa", sum := "1f1cb6633d6cbb84836f48a7d3f0c19776e8f464905ec7acb2deffd0ddbe098c", func := "loop.example/g01179/laws.FnLenders", spec := "fnLenders", unfollowed := true, recurses := true, apart := false }
def FnLendersSaid : Prop := fnLendersRow.holds Try.pinned (OpenSpec.ofChange fnLendersSpec)

/-- ITS FALSE NEIGHBOUR: 'it returns false'. Refute it at one input. -/
def fnLendersWrong : ChangeSpec := { name := "fnLenders", fn := fun _ => fun
  | [d] => { results := [.lit (.bool false)], args := [d] }
  | _ => none }
def FnLendersWrongFalsely : Prop := fnLendersRow.holds Try.pinned (OpenSpec.ofChange fnLendersWrong)

/- THE SECOND FORM. 'bulk': how many values and letters a reading holds, each counted each time it is reached (what is shared counts as often as it is met; a slice's spare places count too). A statement '..UptoSaid' is the law's where the arguments, and the package variables that the reading takes, are together of bulk at most 1048576: NARROWER than '..Said'. Prove '..Said' where nothing that the law and all that it calls make is longer than what came in: it says more and counts as full. Else prove '..UptoSaid'. A law counts once. -/
mutual
def uptoBulk {H : Type} : DataW H → Nat
  | .lit (.string bytes) => bytes.length + 1
  | .lit _ => 1
  | .nil => 1
  | .ptr d => uptoBulk d + 1
  | .slice elems spare => uptoBulkAll elems + uptoBulkAll spare + 1
  | .agg parts => uptoBulkAll parts + 1
  | .iface _ d => uptoBulk d + 1
  | .map entries => uptoBulkEntries entries + 1
  | .held _ => 1
def uptoBulkAll {H : Type} : List (DataW H) → Nat
  | [] => 0
  | d :: r => uptoBulk d + uptoBulkAll r
def uptoBulkEntries {H : Type} : List (Lit × DataW H) → Nat
  | [] => 0
  | x :: r => uptoBulkEntry x + uptoBulkEntries r
def uptoBulkEntry {H : Type} : Lit × DataW H → Nat
  | (.string bytes, d) => bytes.length + uptoBulk d + 1
  | (_, d) => uptoBulk d + 1
 end
def uptoSmall : (H : Type) → List (DataW H) → Bool := fun _ ds => decide (uptoBulkAll ds ≤ 1048576)
def OpenSpec.upto (s : _root_.Go.ChangeSpec) : _root_.Go.OpenSpec := { _root_.Go.OpenSpec.ofChange s with cond := some uptoSmall }

/-- 'laws.FnLoanParts', WHERE WHAT IT READS IS OF BULK AT MOST 1048576: true; the input reads as it did. -/
def fnLoanPartsUptoRow : OpenClaim := { program := "ytpbboooeahmgpaa", sum := "1f1cb6633d6cbb84836f48a7d3f0c19776e8f464905ec7acb2deffd0ddbe098c", func := "loop.example/g01179/laws.FnLoanParts", spec := "fnLoanParts", unfollowed := true, recurses := true, apart := false, narrowed := true }
def FnLoanPartsUptoSaid : Prop := fnLoanPartsUptoRow.holds Try.pinned (OpenSpec.upto fnLoanPartsSpec)

/-- 'laws.FnExactDelayOf', WHERE WHAT IT READS IS OF BULK AT MOST 1048576: true; the input reads as it did. -/
def fnExactDelayOfUptoRow : OpenClaim := { program := "ytpbboooeahmgpaa", sum := "1f1cb6633d6cbb84836f48a7d3f0c19776e8f464905ec7acb2deffd0ddbe098c", func := "loop.example/g01179/laws.FnExactDelayOf", spec := "fnExactDelayOf", unfollowed := true, recurses := true, apart := false, narrowed := true }
def FnExactDelayOfUptoSaid : Prop := fnExactDelayOfUptoRow.holds Try.pinned (OpenSpec.upto fnExactDelayOfSpec)

/-- 'laws.FnExactRunClean', WHERE WHAT IT READS IS OF BULK AT MOST 1048576: true; the input reads as it did. -/
def fnExactRunCleanUptoRow : OpenClaim := { program := "ytpbboooeahmgpaa", sum := "1f1cb6633d6cbb84836f48a7d3f0c19776e8f464905ec7acb2deffd0ddbe098c", func := "loop.example/g01179/laws.FnExactRunClean", spec := "fnExactRunClean", unfollowed := true, recurses := true, apart := false, narrowed := true }
def FnExactRunCleanUptoSaid : Prop := fnExactRunCleanUptoRow.holds Try.pinned (OpenSpec.upto fnExactRunCleanSpec)

/-- 'laws.FnExactHeldAt', WHERE WHAT IT READS IS OF BULK AT MOST 1048576: true; the input reads as it did. -/
def fnExactHeldAtUptoRow : OpenClaim := { program := "ytpbboooeahmgpaa", sum := "1f1cb6633d6cbb84836f48a7d3f0c19776e8f464905ec7acb2deffd0ddbe098c", func := "loop.example/g01179/laws.FnExactHeldAt", spec := "fnExactHeldAt", unfollowed := true, recurses := true, apart := false, narrowed := true }
def FnExactHeldAtUptoSaid : Prop := fnExactHeldAtUptoRow.holds Try.pinned (OpenSpec.upto fnExactHeldAtSpec)

/-- 'laws.FnExactCanLend', WHERE WHAT IT READS IS OF BULK AT MOST 1048576: true; the input reads as it did. -/
def fnExactCanLendUptoRow : OpenClaim := { program := "ytpbboooeahmgpaa", sum := "1f1cb6633d6cbb84836f48a7d3f0c19776e8f464905ec7acb2deffd0ddbe098c", func := "loop.example/g01179/laws.FnExactCanLend", spec := "fnExactCanLend", unfollowed := true, recurses := true, apart := false, narrowed := true }
def FnExactCanLendUptoSaid : Prop := fnExactCanLendUptoRow.holds Try.pinned (OpenSpec.upto fnExactCanLendSpec)

/-- 'laws.FnExactFirstClash', WHERE WHAT IT READS IS OF BULK AT MOST 1048576: true; the input reads as it did. -/
def fnExactFirstClashUptoRow : OpenClaim := { program := "ytpbboooeahmgpaa", sum := "1f1cb6633d6cbb84836f48a7d3f0c19776e8f464905ec7acb2deffd0ddbe098c", func := "loop.example/g01179/laws.FnExactFirstClash", spec := "fnExactFirstClash", unfollowed := true, recurses := true, apart := false, narrowed := true }
def FnExactFirstClashUptoSaid : Prop := fnExactFirstClashUptoRow.holds Try.pinned (OpenSpec.upto fnExactFirstClashSpec)

/-- 'laws.FnExactLendersOf', WHERE WHAT IT READS IS OF BULK AT MOST 1048576: true; the input reads as it did. -/
def fnExactLendersOfUptoRow : OpenClaim := { program := "ytpbboooeahmgpaa", sum := "1f1cb6633d6cbb84836f48a7d3f0c19776e8f464905ec7acb2deffd0ddbe098c", func := "loop.example/g01179/laws.FnExactLendersOf", spec := "fnExactLendersOf", unfollowed := true, recurses := true, apart := false, narrowed := true }
def FnExactLendersOfUptoSaid : Prop := fnExactLendersOfUptoRow.holds Try.pinned (OpenSpec.upto fnExactLendersOfSpec)

/-- 'laws.FnExactConflictsOf', WHERE WHAT IT READS IS OF BULK AT MOST 1048576: true; the input reads as it did. -/
def fnExactConflictsOfUptoRow : OpenClaim := { program := "ytpbboooeahmgpaa", sum := "1f1cb6633d6cbb84836f48a7d3f0c19776e8f464905ec7acb2deffd0ddbe098c", func := "loop.example/g01179/laws.FnExactConflictsOf", spec := "fnExactConflictsOf", unfollowed := true, recurses := true, apart := false, narrowed := true }
def FnExactConflictsOfUptoSaid : Prop := fnExactConflictsOfUptoRow.holds Try.pinned (OpenSpec.upto fnExactConflictsOfSpec)

/-- 'laws.FnLenders', WHERE WHAT IT READS IS OF BULK AT MOST 1048576: true; the input reads as it did. -/
def fnLendersUptoRow : OpenClaim := { program := "ytpbboooeahmgpaa", sum := "1f1cb6633d6cbb84836f48a7d3f0c19776e8f464905ec7acb2deffd0ddbe098c", func := "loop.example/g01179/laws.FnLenders", spec := "fnLenders", unfollowed := true, recurses := true, apart := false, narrowed := true }
def FnLendersUptoSaid : Prop := fnLendersUptoRow.holds Try.pinned (OpenSpec.upto fnLendersSpec)

end Rows
end Go.Proofs.Ytpbboooeahmgpaa
