/-
  No cell of these rows narrows 'for every input' (looked for: loops, veiled, ifaces, maps, wideKeys, modest, calm, conditions, laid).
  DERIVED. THE GIVEN ROWS OF THIS SEAT. 11 by the template 'for every input the law returns true; each argument reads behind the call as it read before'; 0 by the template 'total and deterministic' (their statements: YtoomjghabiojkaaTotals.lean).
  GIVEN WITH THE SEED: the statements are not yours to turn. If you find one false, say at which input.
  Laid BY PROGRAM, IN A SANDBOX (cutbox-rows.mjs): the forced cells as the released guide's own fill.sh prints them over the translation 43b4c111423ac095… (all of the seat's roots in one cut). By AI agents, Wed Nov 11 2026. No macro, syntax, notation, axiom, sorry.
-/
import Derived.Test.YtoomjghabiojkaaChecked
import GoSem.Claim
import GoSem.ClaimJoined
import GoSem.ClaimMapViews
import Derived.JoinedTies
import Derived.KernelRfl
namespace Go.Proofs.Ytoomjghabiojkaa
/- THE CELL 'sum', in the pinned program and in every row, IS THE sha256 OF THE DUMP (.gsa) THAT YtoomjghabiojkaaProg.lean LOADS. Nothing in Lean hashes anything: it is a label: what it is worth is what the hold of that sum in a sandbox is worth. -/
noncomputable def Try.pinned : Pinned := { name := "ytoomjghabiojkaa", sum := "43b4c111423ac0959e2ae6551f9b41afaf73b6e63e6275fa63ea30f4e661d7aa", checked := Try.checked }
namespace Rows
def none {H : Type} : Left H := { results := [], args := [] }

/-- 'laws.FnExactNewDesk': WHATEVER THE INPUT: true; the input reads as it did. -/
def fnExactNewDeskSpec : ChangeSpec := { name := "fnExactNewDesk", fn := fun _ => fun
  | [d] => { results := [.lit (.bool true)], args := [d] }
  | _ => none }
def fnExactNewDeskRow : OpenClaim := { program := "ytoomjghabiojkaa", sum := "43b4c111423ac0959e2ae6551f9b41afaf73b6e63e6275fa63ea30f4e661d7aa", func := "loop.example/g01179/laws.FnExactNewDesk", spec := "fnExactNewDesk", apart := false }
def FnExactNewDeskSaid : Prop := fnExactNewDeskRow.holds Try.pinned (OpenSpec.ofChange fnExactNewDeskSpec)

/-- ITS FALSE NEIGHBOUR: 'it returns false'. Refute it at one input. -/
def fnExactNewDeskWrong : ChangeSpec := { name := "fnExactNewDesk", fn := fun _ => fun
  | [d] => { results := [.lit (.bool false)], args := [d] }
  | _ => none }
def FnExactNewDeskWrongFalsely : Prop := fnExactNewDeskRow.holds Try.pinned (OpenSpec.ofChange fnExactNewDeskWrong)

/-- 'laws.FnExactUnheldPlaces': WHATEVER THE INPUT: true; the input reads as it did. -/
def fnExactUnheldPlacesSpec : ChangeSpec := { name := "fnExactUnheldPlaces", fn := fun _ => fun
  | [d] => { results := [.lit (.bool true)], args := [d] }
  | _ => none }
def fnExactUnheldPlacesRow : OpenClaim := { program := "ytoomjghabiojkaa", sum := "43b4c111423ac0959e2ae6551f9b41afaf73b6e63e6275fa63ea30f4e661d7aa", func := "loop.example/g01179/laws.FnExactUnheldPlaces", spec := "fnExactUnheldPlaces", unfollowed := true, recurses := true, apart := false }
def FnExactUnheldPlacesSaid : Prop := fnExactUnheldPlacesRow.holds Try.pinned (OpenSpec.ofChange fnExactUnheldPlacesSpec)

/-- ITS FALSE NEIGHBOUR: 'it returns false'. Refute it at one input. -/
def fnExactUnheldPlacesWrong : ChangeSpec := { name := "fnExactUnheldPlaces", fn := fun _ => fun
  | [d] => { results := [.lit (.bool false)], args := [d] }
  | _ => none }
def FnExactUnheldPlacesWrongFalsely : Prop := fnExactUnheldPlacesRow.holds Try.pinned (OpenSpec.ofChange fnExactUnheldPlacesWrong)

/-- 'laws.FnExactNewArena': WHATEVER THE INPUT: true; the input reads as it did. -/
def fnExactNewArenaSpec : ChangeSpec := { name := "fnExactNewArena", fn := fun _ => fun
  | [d1, d2] => { results := [.lit (.bool true)], args := [d1, d2] }
  | _ => none }
def fnExactNewArenaRow : OpenClaim := { program := "ytoomjghabiojkaa", sum := "43b4c111423ac0959e2ae6551f9b41afaf73b6e63e6275fa63ea30f4e661d7aa", func := "loop.example/g01179/laws.FnExactNewArena", spec := "fnExactNewArena", unfollowed := true, recurses := true, apart := false }
def FnExactNewArenaSaid : Prop := fnExactNewArenaRow.holds Try.pinned (OpenSpec.ofChange fnExactNewArenaSpec)

/-- ITS FALSE NEIGHBOUR: 'it returns false'. Refute it at one input. -/
def fnExactNewArenaWrong : ChangeSpec := { name := "fnExactNewArena", fn := fun _ => fun
  | [d1, d2] => { results := [.lit (.bool false)], args := [d1, d2] }
  | _ => none }
def FnExactNewArenaWrongFalsely : Prop := fnExactNewArenaRow.holds Try.pinned (OpenSpec.ofChange fnExactNewArenaWrong)

/-- 'laws.FnExactNewMachine': WHATEVER THE INPUT: true; the input reads as it did. -/
def fnExactNewMachineSpec : ChangeSpec := { name := "fnExactNewMachine", fn := fun _ => fun
  | [d] => { results := [.lit (.bool true)], args := [d] }
  | _ => none }
def fnExactNewMachineRow : OpenClaim := { program := "ytoomjghabiojkaa", sum := "43b4c111423ac0959e2ae6551f9b41afaf73b6e63e6275fa63ea30f4e661d7aa", func := "loop.example/g01179/laws.FnExactNewMachine", spec := "fnExactNewMachine", apart := false }
def FnExactNewMachineSaid : Prop := fnExactNewMachineRow.holds Try.pinned (OpenSpec.ofChange fnExactNewMachineSpec)

/-- ITS FALSE NEIGHBOUR: 'it returns false'. Refute it at one input. -/
def fnExactNewMachineWrong : ChangeSpec := { name := "fnExactNewMachine", fn := fun _ => fun
  | [d] => { results := [.lit (.bool false)], args := [d] }
  | _ => none }
def FnExactNewMachineWrongFalsely : Prop := fnExactNewMachineRow.holds Try.pinned (OpenSpec.ofChange fnExactNewMachineWrong)

/-- 'laws.FnExactCloseGap': WHATEVER THE INPUT: true; the input reads as it did. -/
def fnExactCloseGapSpec : ChangeSpec := { name := "fnExactCloseGap", fn := fun _ => fun
  | [d] => { results := [.lit (.bool true)], args := [d] }
  | _ => none }
def fnExactCloseGapRow : OpenClaim := { program := "ytoomjghabiojkaa", sum := "43b4c111423ac0959e2ae6551f9b41afaf73b6e63e6275fa63ea30f4e661d7aa", func := "loop.example/g01179/laws.FnExactCloseGap", spec := "fnExactCloseGap", unfollowed := true, recurses := true, apart := false }
def FnExactCloseGapSaid : Prop := fnExactCloseGapRow.holds Try.pinned (OpenSpec.ofChange fnExactCloseGapSpec)

/-- ITS FALSE NEIGHBOUR: 'it returns false'. Refute it at one input. -/
def fnExactCloseGapWrong : ChangeSpec := { name := "fnExactCloseGap", fn := fun _ => fun
  | [d] => { results := [.lit (.bool false)], args := [d] }
  | _ => none }
def FnExactCloseGapWrongFalsely : Prop := fnExactCloseGapRow.holds Try.pinned (OpenSpec.ofChange fnExactCloseGapWrong)

/-- 'laws.FnExactShowsSame': WHATEVER THE INPUT: true; the input reads as it did. -/
def fnExactShowsSameSpec : ChangeSpec := { name := "fnExactShowsSame", fn := fun _ => fun
  | [d1, d2] => { results := [.lit (.bool true)], args := [d1, d2] }
  | _ => none }
def fnExactShowsSameRow : OpenClaim := { program := "ytoomjghabiojkaa", sum := "43b4c111423ac0959e2ae6551f9b41afaf73b6e63e6275fa63ea30f4e661d7aa", func := "loop.example/g01179/laws.FnExactShowsSame", spec := "fnExactShowsSame", unfollowed := true, recurses := true, apart := false }
def FnExactShowsSameSaid : Prop := fnExactShowsSameRow.holds Try.pinned (OpenSpec.ofChange fnExactShowsSameSpec)

/-- ITS FALSE NEIGHBOUR: 'it returns false'. Refute it at one input. -/
def fnExactShowsSameWrong : ChangeSpec := { name := "fnExactShowsSame", fn := fun _ => fun
  | [d1, d2] => { results := [.lit (.bool false)], args := [d1, d2] }
  | _ => none }
def FnExactShowsSameWrongFalsely : Prop := fnExactShowsSameRow.holds Try.pinned (OpenSpec.ofChange fnExactShowsSameWrong)

/-- 'laws.FnExactShownBytes': WHATEVER THE INPUT: true; the input reads as it did. -/
def fnExactShownBytesSpec : ChangeSpec := { name := "fnExactShownBytes", fn := fun _ => fun
  | [d] => { results := [.lit (.bool true)], args := [d] }
  | _ => none }
def fnExactShownBytesRow : OpenClaim := { program := "ytoomjghabiojkaa", sum := "43b4c111423ac0959e2ae6551f9b41afaf73b6e63e6275fa63ea30f4e661d7aa", func := "loop.example/g01179/laws.FnExactShownBytes", spec := "fnExactShownBytes", apart := false }
def FnExactShownBytesSaid : Prop := fnExactShownBytesRow.holds Try.pinned (OpenSpec.ofChange fnExactShownBytesSpec)

/-- ITS FALSE NEIGHBOUR: 'it returns false'. Refute it at one input. -/
def fnExactShownBytesWrong : ChangeSpec := { name := "fnExactShownBytes", fn := fun _ => fun
  | [d] => { results := [.lit (.bool false)], args := [d] }
  | _ => none }
def FnExactShownBytesWrongFalsely : Prop := fnExactShownBytesRow.holds Try.pinned (OpenSpec.ofChange fnExactShownBytesWrong)

/-- 'laws.FnExactMarkArena': WHATEVER THE INPUT: true; the input reads as it did. -/
def fnExactMarkArenaSpec : ChangeSpec := { name := "fnExactMarkArena", fn := fun _ => fun
  | [d] => { results := [.lit (.bool true)], args := [d] }
  | _ => none }
def fnExactMarkArenaRow : OpenClaim := { program := "ytoomjghabiojkaa", sum := "43b4c111423ac0959e2ae6551f9b41afaf73b6e63e6275fa63ea30f4e661d7aa", func := "loop.example/g01179/laws.FnExactMarkArena", spec := "fnExactMarkArena", unfollowed := true, recurses := true, apart := false }
def FnExactMarkArenaSaid : Prop := fnExactMarkArenaRow.holds Try.pinned (OpenSpec.ofChange fnExactMarkArenaSpec)

/-- ITS FALSE NEIGHBOUR: 'it returns false'. Refute it at one input. -/
def fnExactMarkArenaWrong : ChangeSpec := { name := "fnExactMarkArena", fn := fun _ => fun
  | [d] => { results := [.lit (.bool false)], args := [d] }
  | _ => none }
def FnExactMarkArenaWrongFalsely : Prop := fnExactMarkArenaRow.holds Try.pinned (OpenSpec.ofChange fnExactMarkArenaWrong)

/-- 'laws.FnExactResetArena': WHATEVER THE INPUT: true; the input reads as it did. -/
def fnExactResetArenaSpec : ChangeSpec := { name := "fnExactResetArena", fn := fun _ => fun
  | [d] => { results := [.lit (.bool true)], args := [d] }
  | _ => none }
def fnExactResetArenaRow : OpenClaim := { program := "ytoomjghabiojkaa", sum := "43b4c111423ac0959e2ae6551f9b41afaf73b6e63e6275fa63ea30f4e661d7aa", func := "loop.example/g01179/laws.FnExactResetArena", spec := "fnExactResetArena", unfollowed := true, recurses := true, apart := false }
def FnExactResetArenaSaid : Prop := fnExactResetArenaRow.holds Try.pinned (OpenSpec.ofChange fnExactResetArenaSpec)

/-- ITS FALSE NEIGHBOUR: 'it returns false'. Refute it at one input. -/
def fnExactResetArenaWrong : ChangeSpec := { name := "fnExactResetArena", fn := fun _ => fun
  | [d] => { results := [.lit (.bool false)], args := [d] }
  | _ => none }
def FnExactResetArenaWrongFalsely : Prop := fnExactResetArenaRow.holds Try.pinned (OpenSpec.ofChange fnExactResetArenaWrong)

/-- 'laws.FnExactWidenGap': WHATEVER THE INPUT: true; the input reads as it did. -/
def fnExactWidenGapSpec : ChangeSpec := { name := "fnExactWidenGap", fn := fun _ => fun
  | [d1, d2] => { results := [.lit (.bool true)], args := [d1, d2] }
  | _ => none }
def fnExactWidenGapRow : OpenClaim := { program := "ytoomjghabiojkaa", sum := "43b4c111423ac0959e2ae6551f9b41afaf73b6e63e6275fa63ea30f4e661d7aa", func := "loop.example/g01179/laws.FnExactWidenGap", spec := "fnExactWidenGap", unfollowed := true, recurses := true, apart := false }
def FnExactWidenGapSaid : Prop := fnExactWidenGapRow.holds Try.pinned (OpenSpec.ofChange fnExactWidenGapSpec)

/-- ITS FALSE NEIGHBOUR: 'it returns false'. Refute it at one input. -/
def fnExactWidenGapWrong : ChangeSpec := { name := "fnExactWidenGap", fn := fun _ => fun
  | [d1, d2] => { results := [.lit (.bool false)], args := [d1, d2] }
  | _ => none }
def FnExactWidenGapWrongFalsely : Prop := fnExactWidenGapRow.holds Try.pinned (OpenSpec.ofChange fnExactWidenGapWrong)

/-- 'laws.FnExactFlattenRope': WHATEVER THE INPUT: true; the input reads as it did. -/
def fnExactFlattenRopeSpec : ChangeSpec := { name := "fnExactFlattenRope", fn := fun _ => fun
  | [d1, d2] => { results := [.lit (.bool true)], args := [d1, d2] }
  | _ => none }
def fnExactFlattenRopeRow : OpenClaim := { program := "ytoomjghabiojkaa", sum := "43b4c111423ac0959e2ae6551f9b41afaf73b6e63e6275fa63ea30f4e661d7aa", func := "loop.example/g01179/laws.FnExactFlattenRope", spec := "fnExactFlattenRope", unfollowed := true, recurses := true, apart := false }
def FnExactFlattenRopeSaid : Prop := fnExactFlattenRopeRow.holds Try.pinned (OpenSpec.ofChange fnExactFlattenRopeSpec)

/-- ITS FALSE NEIGHBOUR: 'it returns false'. Refute it at one input. -/
def fnExactFlattenRopeWrong : ChangeSpec := { name := "fnExactFlattenRope", fn := fun _ => fun
  | [d1, d2] => { results := [.lit (.bool false)], args := [d1, d2] }
  | _ => none }
def FnExactFlattenRopeWrongFalsely : Prop := fnExactFlattenRopeRow.holds Try.pinned (OpenSpec.ofChange fnExactFlattenRopeWrong)

/- THE SECOND FORM. 'bulk': how many values and letters a reading holds, each counted each time it is reached (what is shared counts as often as it is met; a slice's spare places count too). A statement '..UptoSaid' is the law's where the arguments, and the package variables that the reading takes, are together of bulk at most 1048576: NARROWER than '..Said'. Prove '..Said' where nothing that the law and all that it calls make is longer than what came in: it says more and counts as full. Else prove '..UptoSaid'. A law counts once. -/
mutual
def uptoBulk {H : Type} : DataW H → Nat
  | .lit (.string bytes) => bytes.length + 1
  | .lit _ => 1
  | .nil => 1
  | .ptr d => uptoBulk d + 1
  | .slice elems spare => uptoBulkAll elems + uptoBulkAll spare + 1
  | .agg parts => uptoBulkAll parts + 1
  | .iface _ d => uptoBulk d + 1
  | .map entries => uptoBulkEntries entries + 1
  | .held _ => 1
def uptoBulkAll {H : Type} : List (DataW H) → Nat
  | [] => 0
  | d :: r => uptoBulk d + uptoBulkAll r
def uptoBulkEntries {H : Type} : List (Lit × DataW H) → Nat
  | [] => 0
  | x :: r => uptoBulkEntry x + uptoBulkEntries r
def uptoBulkEntry {H : Type} : Lit × DataW H → Nat
  | (.string bytes, d) => bytes.length + uptoBulk d + 1
  | (_, d) => uptoBulk d + 1
 end
def uptoSmall : (H : Type) → List (DataW H) → Bool := fun _ ds => decide (uptoBulkAll ds ≤ 1048576)
def OpenSpec.upto (s : _root_.Go.ChangeSpec) : _root_.Go.OpenSpec := { _root_.Go.OpenSpec.ofChange s with cond := some uptoSmall }

/-- 'laws.FnExactNewDesk', WHERE WHAT IT READS IS OF BULK AT MOST 1048576: true; the input reads as it did. -/
def fnExactNewDeskUptoRow : OpenClaim := { program := "ytoomjghabiojkaa", sum := "43b4c111423ac0959e2ae6551f9b41afaf73b6e63e6275fa63ea30f4e661d7aa", func := "loop.example/g01179/laws.FnExactNewDesk", spec := "fnExactNewDesk", apart := false, narrowed := true }
def FnExactNewDeskUptoSaid : Prop := fnExactNewDeskUptoRow.holds Try.pinned (OpenSpec.upto fnExactNewDeskSpec)

/-- 'laws.FnExactUnheldPlaces', WHERE WHAT IT READS IS OF BULK AT MOST 1048576: true; the input reads as it did. -/
def fnExactUnheldPlacesUptoRow : OpenClaim := { program := "ytoomjghabiojkaa", sum := "43b4c111423ac0959e2ae6551f9b41afaf73b6e63e6275fa63ea30f4e661d7aa", func := "loop.example/g01179/laws.FnExactUnheldPlaces", spec := "fnExactUnheldPlaces", unfollowed := true, recurses := true, apart := false, narrowed := true }
def FnExactUnheldPlacesUptoSaid : Prop := fnExactUnheldPlacesUptoRow.holds Try.pinned (OpenSpec.upto fnExactUnheldPlacesSpec)

/-- 'laws.FnExactNewArena', WHERE WHAT IT READS IS OF BULK AT MOST 1048576: true; the input reads as it did. -/
def fnExactNewArenaUptoRow : OpenClaim := { program := "ytoomjghabiojkaa", sum := "43b4c111423ac0959e2ae6551f9b41afaf73b6e63e6275fa63ea30f4e661d7aa", func := "loop.example/g01179/laws.FnExactNewArena", spec := "fnExactNewArena", unfollowed := true, recurses := true, apart := false, narrowed := true }
def FnExactNewArenaUptoSaid : Prop := fnExactNewArenaUptoRow.holds Try.pinned (OpenSpec.upto fnExactNewArenaSpec)

/-- 'laws.FnExactNewMachine', WHERE WHAT IT READS IS OF BULK AT MOST 1048576: true; the input reads as it did. -/
def fnExactNewMachineUptoRow : OpenClaim := { program := "ytoomjghabiojkaa", sum := "43b4c111423ac0959e2ae6551f9b41afaf73b6e63e6275fa63ea30f4e661d7aa", func := "loop.example/g01179/laws.FnExactNewMachine", spec := "fnExactNewMachine", apart := false, narrowed := true }
def FnExactNewMachineUptoSaid : Prop := fnExactNewMachineUptoRow.holds Try.pinned (OpenSpec.upto fnExactNewMachineSpec)

/-- 'laws.FnExactCloseGap', WHERE WHAT IT READS IS OF BULK AT MOST 1048576: true; the input reads as it did. -/
def fnExactCloseGapUptoRow : OpenClaim := { program := "ytoomjghabiojkaa", sum := "43b4c111423ac0959e2ae6551f9b41afaf73b6e63e6275fa63ea30f4e661d7aa", func := "loop.example/g01179/laws.FnExactCloseGap", spec := "fnExactCloseGap", unfollowed := true, recurses := true, apart := false, narrowed := true }
def FnExactCloseGapUptoSaid : Prop := fnExactCloseGapUptoRow.holds Try.pinned (OpenSpec.upto fnExactCloseGapSpec)

/-- 'laws.FnExactShowsSame', WHERE WHAT IT READS IS OF BULK AT MOST 1048576: true; the input reads as it did. -/
def fnExactShowsSameUptoRow : OpenClaim := { program := "ytoomjghabiojkaa", sum := "43b4c111423ac0959e2ae6551f9b41afaf73b6e63e6275fa63ea30f4e661d7aa", func := "loop.example/g01179/laws.FnExactShowsSame", spec := "fnExactShowsSame", unfollowed := true, recurses := true, apart := false, narrowed := true }
def FnExactShowsSameUptoSaid : Prop := fnExactShowsSameUptoRow.holds Try.pinned (OpenSpec.upto fnExactShowsSameSpec)

/-- 'laws.FnExactShownBytes', WHERE WHAT IT READS IS OF BULK AT MOST 1048576: true; the input reads as it did. -/
def fnExactShownBytesUptoRow : OpenClaim := { program := "ytoomjghabiojkaa", sum := "43b4c111423ac0959e2ae6551f9b41afaf73b6e63e6275fa63ea30f4e661d7aa", func := "loop.example/g01179/laws.FnExactShownBytes", spec := "fnExactShownBytes", apart := false, narrowed := true }
def FnExactShownBytesUptoSaid : Prop := fnExactShownBytesUptoRow.holds Try.pinned (OpenSpec.upto fnExactShownBytesSpec)

/-- 'laws.FnExactMarkArena', WHERE WHAT IT READS IS OF BULK AT MOST 1048576: true; the input reads as it did. -/
def fnExactMarkArenaUptoRow : OpenClaim := { program := "ytoomjghabiojkaa", sum := "43b4c111423ac0959e2ae6551f9b41afaf73b6e63e6275fa63ea30f4e661d7aa", func := "loop.example/g01179/laws.FnExactMarkArena", spec := "fnExactMarkArena", unfollowed := true, recurses := true, apart := false, narrowed := true }
def FnExactMarkArenaUptoSaid : Prop := fnExactMarkArenaUptoRow.holds Try.pinned (OpenSpec.upto fnExactMarkArenaSpec)

/-- 'laws.FnExactResetArena', WHERE WHAT IT READS IS OF BULK AT MOST 1048576: true; the input reads as it did. -/
def fnExactResetArenaUptoRow : OpenClaim := { program := "ytoomjghabiojkaa", sum := "43b4c111423ac0959e2ae6551f9b41afaf73b6e63e6275fa63ea30f4e661d7aa", func := "loop.example/g01179/laws.FnExactResetArena", spec := "fnExactResetArena", unfollowed := true, recurses := true, apart := false, narrowed := true }
def FnExactResetArenaUptoSaid : Prop := fnExactResetArenaUptoRow.holds Try.pinned (OpenSpec.upto fnExactResetArenaSpec)

/-- 'laws.FnExactWidenGap', WHERE WHAT IT READS IS OF BULK AT MOST 1048576: true; the input reads as it did. -/
def fnExactWidenGapUptoRow : OpenClaim := { program := "ytoomjghabiojkaa", sum := "43b4c111423ac0959e2ae6551f9b41afaf73b6e63e6275fa63ea30f4e661d7aa", func := "loop.example/g01179/laws.FnExactWidenGap", spec := "fnExactWidenGap", unfollowed := true, recurses := true, apart := false, narrowed := true }
def FnExactWidenGapUptoSaid : Prop := fnExactWidenGapUptoRow.holds Try.pinned (OpenSpec.upto fnExactWidenGapSpec)

/-- 'laws.FnExactFlattenRope', WHERE WHAT IT READS IS OF BULK AT MOST 1048576: true; the input reads as it did. -/
def fnExactFlattenRopeUptoRow : OpenClaim := { program := "ytoomjghabiojkaa", sum := "43b4c111423ac0959e2ae6551f9b41afaf73b6e63e6275fa63ea30f4e661d7aa", func := "loop.example/g01179/laws.FnExactFlattenRope", spec := "fnExactFlattenRope", unfollowed := true, recurses := true, apart := false, narrowed := true }
def FnExactFlattenRopeUptoSaid : Prop := fnExactFlattenRopeUptoRow.holds Try.pinned (OpenSpec.upto fnExactFlattenRopeSpec)

end Rows
end Go.Proofs.Ytoomjghabiojkaa
