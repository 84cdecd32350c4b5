/-
  DERIVED. GIVEN WITH THE SEED: THE CARDS: each row of YtbbkneenambchaaGreatDoorRows.lean that lists a variable, with what it lists TIED to the program's text (the seventh form; the later family's looks); each row that meets fmt, with fmt's text TOLD by the authors' own Lean function (tested against real Go, not proved from fmt's source: count such statements apart). THE CARD IS WHAT COUNTS. Prove the row's statement (the work); the ties are given (YtbbkneenambchaaGreatDoorTie.lean); close each card by the builder's one call (the guide's Derived/Test/ToyasCard.lean, 'card_holds'). Laid BY PROGRAM, IN A SANDBOX (cutbox-door.mjs). By AI agents, Wed Nov 11 2026. No macro, syntax, notation, axiom, sorry.
-/
import Derived.Test.YtbbkneenambchaaGreatDoorRows
import GoSem.ClaimSeven
namespace Go.Proofs.YtbbkneenambchaaGreatDoor
namespace Rows

/-- THE TIED CARD OF 'laws.FnLock'. -/
def fnLockCard : Claim7 := { stood := { row := fnLockRow, standIns := [], harness := (true, "1c469acbec412cb53c3e16d146bf8ddc2917c1bdbaf98684eeb732a9e418cd33"), looks := false }, kinds := [], alts := [], laidByText := true, laidKinds := [.data, .data, .data, .data, .pinned], laidTests := true, laidLooks := .later }
def FnLockCardSaid : Prop := Claim7.holds Tryz.pinned (.plain (OpenSpec.ofChange fnLockSpec)) fnLockCard

/-- THE TIED CARD OF 'laws.FnNumbers'. -/
def fnNumbersCard : Claim7 := { stood := { row := fnNumbersRow, standIns := [], harness := (true, "1c469acbec412cb53c3e16d146bf8ddc2917c1bdbaf98684eeb732a9e418cd33"), looks := false }, kinds := [], alts := [], laidByText := true, laidKinds := [.data, .data, .data, .data, .pinned], laidTests := true, laidLooks := .later }
def FnNumbersCardSaid : Prop := Claim7.holds Tryz.pinned (.plain (OpenSpec.ofChange fnNumbersSpec)) fnNumbersCard

/-- THE TIED CARD OF 'laws.FnMarkings'. -/
def fnMarkingsCard : Claim7 := { stood := { row := fnMarkingsRow, standIns := [], harness := (true, "1c469acbec412cb53c3e16d146bf8ddc2917c1bdbaf98684eeb732a9e418cd33"), looks := false }, kinds := [], alts := [], laidByText := true, laidKinds := [.data, .data, .data, .data, .pinned], laidTests := true, laidLooks := .later }
def FnMarkingsCardSaid : Prop := Claim7.holds Tryz.pinned (.plain (OpenSpec.ofChange fnMarkingsSpec)) fnMarkingsCard

/-- THE SECOND FORM's CARD OF 'laws.FnLock'. -/
def fnLockUptoCard : Claim7 := { stood := { row := fnLockUptoRow, standIns := [], harness := (true, "1c469acbec412cb53c3e16d146bf8ddc2917c1bdbaf98684eeb732a9e418cd33"), looks := false }, kinds := [], alts := [], laidByText := true, laidKinds := [.data, .data, .data, .data, .pinned], laidTests := true, laidLooks := .later }
def FnLockUptoCardSaid : Prop := Claim7.holds Tryz.pinned (.plain (OpenSpec.upto fnLockSpec)) fnLockUptoCard

/-- THE SECOND FORM's CARD OF 'laws.FnNumbers'. -/
def fnNumbersUptoCard : Claim7 := { stood := { row := fnNumbersUptoRow, standIns := [], harness := (true, "1c469acbec412cb53c3e16d146bf8ddc2917c1bdbaf98684eeb732a9e418cd33"), looks := false }, kinds := [], alts := [], laidByText := true, laidKinds := [.data, .data, .data, .data, .pinned], laidTests := true, laidLooks := .later }
def FnNumbersUptoCardSaid : Prop := Claim7.holds Tryz.pinned (.plain (OpenSpec.upto fnNumbersSpec)) fnNumbersUptoCard

/-- THE SECOND FORM's CARD OF 'laws.FnMarkings'. -/
def fnMarkingsUptoCard : Claim7 := { stood := { row := fnMarkingsUptoRow, standIns := [], harness := (true, "1c469acbec412cb53c3e16d146bf8ddc2917c1bdbaf98684eeb732a9e418cd33"), looks := false }, kinds := [], alts := [], laidByText := true, laidKinds := [.data, .data, .data, .data, .pinned], laidTests := true, laidLooks := .later }
def FnMarkingsUptoCardSaid : Prop := Claim7.holds Tryz.pinned (.plain (OpenSpec.upto fnMarkingsSpec)) fnMarkingsUptoCard
end Rows
end Go.Proofs.YtbbkneenambchaaGreatDoor
