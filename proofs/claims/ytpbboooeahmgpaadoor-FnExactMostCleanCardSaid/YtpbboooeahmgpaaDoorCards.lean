/-
  DERIVED. GIVEN WITH THE SEED: THE CARDS: each row of YtpbboooeahmgpaaDoorRows.lean that lists a variable, with what it lists TIED to the program's text (the seventh form; the later family's looks); each row that meets fmt, with fmt's text TOLD by the authors' own Lean function (tested against real Go, not proved from fmt's source: count such statements apart). THE CARD IS WHAT COUNTS. Prove the row's statement (the work); the ties are given (YtpbboooeahmgpaaDoorTie.lean); close each card by the builder's one call (the guide's Derived/Test/ToyasCard.lean, 'card_holds'). Laid BY PROGRAM, IN A SANDBOX (cutbox-door.mjs). By AI agents, Wed Nov 11 2026. No macro, syntax, notation, axiom, sorry.
-/
import Derived.Test.YtpbboooeahmgpaaDoorRows
import GoSem.ClaimSeven
namespace Go.Proofs.YtpbboooeahmgpaaDoor
namespace Rows

/-- THE TIED CARD OF 'laws.FnExactMostClean'. -/
def fnExactMostCleanCard : Claim7 := { stood := { row := fnExactMostCleanRow, standIns := [], harness := (true, "ab73b368b7bd9e7ff96a59e6da13d91c282fa68164f8fc7d7dd2b834d34a4dae"), looks := false }, kinds := [], alts := [], laidByText := true, laidKinds := [.data, .data], laidTests := true, laidLooks := .later }
def FnExactMostCleanCardSaid : Prop := Claim7.holds Tryd.pinned (.plain (OpenSpec.ofChange fnExactMostCleanSpec)) fnExactMostCleanCard

/-- THE TIED CARD OF 'laws.FnConflicts'. -/
def fnConflictsCard : Claim7 := { stood := { row := fnConflictsRow, standIns := [], harness := (true, "ab73b368b7bd9e7ff96a59e6da13d91c282fa68164f8fc7d7dd2b834d34a4dae"), looks := false }, kinds := [], alts := [], laidByText := true, laidKinds := [.data, .data], laidTests := true, laidLooks := .later }
def FnConflictsCardSaid : Prop := Claim7.holds Tryd.pinned (.plain (OpenSpec.ofChange fnConflictsSpec)) fnConflictsCard

/-- THE SECOND FORM's CARD OF 'laws.FnExactMostClean'. -/
def fnExactMostCleanUptoCard : Claim7 := { stood := { row := fnExactMostCleanUptoRow, standIns := [], harness := (true, "ab73b368b7bd9e7ff96a59e6da13d91c282fa68164f8fc7d7dd2b834d34a4dae"), looks := false }, kinds := [], alts := [], laidByText := true, laidKinds := [.data, .data], laidTests := true, laidLooks := .later }
def FnExactMostCleanUptoCardSaid : Prop := Claim7.holds Tryd.pinned (.plain (OpenSpec.upto fnExactMostCleanSpec)) fnExactMostCleanUptoCard

/-- THE SECOND FORM's CARD OF 'laws.FnConflicts'. -/
def fnConflictsUptoCard : Claim7 := { stood := { row := fnConflictsUptoRow, standIns := [], harness := (true, "ab73b368b7bd9e7ff96a59e6da13d91c282fa68164f8fc7d7dd2b834d34a4dae"), looks := false }, kinds := [], alts := [], laidByText := true, laidKinds := [.data, .data], laidTests := true, laidLooks := .later }
def FnConflictsUptoCardSaid : Prop := Claim7.holds Tryd.pinned (.plain (OpenSpec.upto fnConflictsSpec)) fnConflictsUptoCard
end Rows
end Go.Proofs.YtpbboooeahmgpaaDoor
