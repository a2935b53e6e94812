/-
  DERIVED. GIVEN WITH THE SEED: THE CARDS: each row of YthbibdnkiklemaaGreatDoorRows.lean that lists a variable, with what it lists TIED to the program's text (the seventh form; the later family's looks); each row that meets fmt, with fmt's text TOLD by the authors' own Lean function (tested against real Go, not proved from fmt's source: count such statements apart). THE CARD IS WHAT COUNTS. Prove the row's statement (the work); the ties are given (YthbibdnkiklemaaGreatDoorTie.lean); close each card by the builder's one call (the guide's Derived/Test/ToyasCard.lean, 'card_holds'). Laid BY PROGRAM, IN A SANDBOX (cutbox-door.mjs). By AI agents, Wed Nov 11 2026. No macro, syntax, notation, axiom, sorry.
-/
import Derived.Test.YthbibdnkiklemaaGreatDoorRows
import GoSem.ClaimSeven
namespace Go.Proofs.YthbibdnkiklemaaGreatDoor
namespace Rows

/-- THE TIED CARD OF 'laws.FnExactStoreWrite'. -/
def fnExactStoreWriteCard : Claim7 := { stood := { row := fnExactStoreWriteRow, standIns := [], harness := (true, "84a6217a5bfb3aca5bb11f94d1427a067a1d81862944acb0a7be4fc2b7eb6dc6"), looks := true }, kinds := [], alts := [], laidByText := true, laidKinds := [.data, .data, .data, .sentinel, .sentinel], laidTests := true, laidLooks := .later }
def FnExactStoreWriteCardSaid : Prop := Claim7.holds Tryz.pinned (.plain (OpenSpec.ofChange fnExactStoreWriteSpec)) fnExactStoreWriteCard

/-- THE TIED CARD OF 'laws.FnExactStoreFlush'. -/
def fnExactStoreFlushCard : Claim7 := { stood := { row := fnExactStoreFlushRow, standIns := [], harness := (true, "84a6217a5bfb3aca5bb11f94d1427a067a1d81862944acb0a7be4fc2b7eb6dc6"), looks := true }, kinds := [], alts := [], laidByText := true, laidKinds := [.data, .data, .data, .sentinel, .sentinel], laidTests := true, laidLooks := .later }
def FnExactStoreFlushCardSaid : Prop := Claim7.holds Tryz.pinned (.plain (OpenSpec.ofChange fnExactStoreFlushSpec)) fnExactStoreFlushCard

/-- THE TIED CARD OF 'laws.FnExactStoreBreak'. -/
def fnExactStoreBreakCard : Claim7 := { stood := { row := fnExactStoreBreakRow, standIns := [], harness := (true, "84a6217a5bfb3aca5bb11f94d1427a067a1d81862944acb0a7be4fc2b7eb6dc6"), looks := true }, kinds := [], alts := [], laidByText := true, laidKinds := [.data, .data, .data, .sentinel, .sentinel], laidTests := true, laidLooks := .later }
def FnExactStoreBreakCardSaid : Prop := Claim7.holds Tryz.pinned (.plain (OpenSpec.ofChange fnExactStoreBreakSpec)) fnExactStoreBreakCard

/-- THE TIED CARD OF 'laws.FnExactStoreCompact'. -/
def fnExactStoreCompactCard : Claim7 := { stood := { row := fnExactStoreCompactRow, standIns := [], harness := (true, "84a6217a5bfb3aca5bb11f94d1427a067a1d81862944acb0a7be4fc2b7eb6dc6"), looks := true }, kinds := [], alts := [], laidByText := true, laidKinds := [.data, .data, .data, .sentinel, .sentinel], laidTests := true, laidLooks := .later }
def FnExactStoreCompactCardSaid : Prop := Claim7.holds Tryz.pinned (.plain (OpenSpec.ofChange fnExactStoreCompactSpec)) fnExactStoreCompactCard

/-- THE SECOND FORM's CARD OF 'laws.FnExactStoreWrite'. -/
def fnExactStoreWriteUptoCard : Claim7 := { stood := { row := fnExactStoreWriteUptoRow, standIns := [], harness := (true, "84a6217a5bfb3aca5bb11f94d1427a067a1d81862944acb0a7be4fc2b7eb6dc6"), looks := true }, kinds := [], alts := [], laidByText := true, laidKinds := [.data, .data, .data, .sentinel, .sentinel], laidTests := true, laidLooks := .later }
def FnExactStoreWriteUptoCardSaid : Prop := Claim7.holds Tryz.pinned (.plain (OpenSpec.upto fnExactStoreWriteSpec)) fnExactStoreWriteUptoCard

/-- THE SECOND FORM's CARD OF 'laws.FnExactStoreFlush'. -/
def fnExactStoreFlushUptoCard : Claim7 := { stood := { row := fnExactStoreFlushUptoRow, standIns := [], harness := (true, "84a6217a5bfb3aca5bb11f94d1427a067a1d81862944acb0a7be4fc2b7eb6dc6"), looks := true }, kinds := [], alts := [], laidByText := true, laidKinds := [.data, .data, .data, .sentinel, .sentinel], laidTests := true, laidLooks := .later }
def FnExactStoreFlushUptoCardSaid : Prop := Claim7.holds Tryz.pinned (.plain (OpenSpec.upto fnExactStoreFlushSpec)) fnExactStoreFlushUptoCard

/-- THE SECOND FORM's CARD OF 'laws.FnExactStoreBreak'. -/
def fnExactStoreBreakUptoCard : Claim7 := { stood := { row := fnExactStoreBreakUptoRow, standIns := [], harness := (true, "84a6217a5bfb3aca5bb11f94d1427a067a1d81862944acb0a7be4fc2b7eb6dc6"), looks := true }, kinds := [], alts := [], laidByText := true, laidKinds := [.data, .data, .data, .sentinel, .sentinel], laidTests := true, laidLooks := .later }
def FnExactStoreBreakUptoCardSaid : Prop := Claim7.holds Tryz.pinned (.plain (OpenSpec.upto fnExactStoreBreakSpec)) fnExactStoreBreakUptoCard

/-- THE SECOND FORM's CARD OF 'laws.FnExactStoreCompact'. -/
def fnExactStoreCompactUptoCard : Claim7 := { stood := { row := fnExactStoreCompactUptoRow, standIns := [], harness := (true, "84a6217a5bfb3aca5bb11f94d1427a067a1d81862944acb0a7be4fc2b7eb6dc6"), looks := true }, kinds := [], alts := [], laidByText := true, laidKinds := [.data, .data, .data, .sentinel, .sentinel], laidTests := true, laidLooks := .later }
def FnExactStoreCompactUptoCardSaid : Prop := Claim7.holds Tryz.pinned (.plain (OpenSpec.upto fnExactStoreCompactSpec)) fnExactStoreCompactUptoCard
end Rows
end Go.Proofs.YthbibdnkiklemaaGreatDoor
