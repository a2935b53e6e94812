/-
  DERIVED. GIVEN WITH THE SEED: THE CARDS: each row of YtaaomkdcmncjnaaGreatDoorRows.lean that lists a variable, with what it lists TIED to the program's text (the seventh form; the later family's looks); each row that meets fmt, with fmt's text TOLD by the authors' own Lean function (tested against real Go, not proved from fmt's source: count such statements apart). THE CARD IS WHAT COUNTS. Prove the row's statement (the work); the ties are given (YtaaomkdcmncjnaaGreatDoorTie.lean); close each card by the builder's one call (the guide's Derived/Test/ToyasCard.lean, 'card_holds'). Laid BY PROGRAM, IN A SANDBOX (cutbox-door.mjs). By AI agents, Wed Nov 11 2026. No macro, syntax, notation, axiom, sorry.
-/
import Derived.Test.YtaaomkdcmncjnaaGreatDoorRows
import GoSem.ClaimSeven
namespace Go.Proofs.YtaaomkdcmncjnaaGreatDoor
namespace Rows

/-- THE TIED CARD OF 'laws.FnStoreKeep'. -/
def fnStoreKeepCard : Claim7 := { stood := { row := fnStoreKeepRow, standIns := [], harness := (true, "08779dcdb097a1d038f9686c2b9885f03a786510b04d58ace6304427e1590a60"), looks := true }, kinds := [], alts := [], laidByText := true, laidKinds := [.data, .data, .data, .sentinel, .sentinel], laidTests := true, laidLooks := .later }
def FnStoreKeepCardSaid : Prop := Claim7.holds Tryz.pinned (.plain (OpenSpec.ofChange fnStoreKeepSpec)) fnStoreKeepCard

/-- THE TIED CARD OF 'laws.FnStoreWhole'. -/
def fnStoreWholeCard : Claim7 := { stood := { row := fnStoreWholeRow, standIns := [], harness := (true, "08779dcdb097a1d038f9686c2b9885f03a786510b04d58ace6304427e1590a60"), looks := true }, kinds := [], alts := [], laidByText := true, laidKinds := [.data, .data, .data, .sentinel, .sentinel], laidTests := true, laidLooks := .later }
def FnStoreWholeCardSaid : Prop := Claim7.holds Tryz.pinned (.plain (OpenSpec.ofChange fnStoreWholeSpec)) fnStoreWholeCard

/-- THE TIED CARD OF 'laws.FnStoreLog'. -/
def fnStoreLogCard : Claim7 := { stood := { row := fnStoreLogRow, standIns := [], harness := (true, "08779dcdb097a1d038f9686c2b9885f03a786510b04d58ace6304427e1590a60"), looks := true }, kinds := [], alts := [], laidByText := true, laidKinds := [.data, .data, .data, .sentinel, .sentinel], laidTests := true, laidLooks := .later }
def FnStoreLogCardSaid : Prop := Claim7.holds Tryz.pinned (.plain (OpenSpec.ofChange fnStoreLogSpec)) fnStoreLogCard

/-- THE TIED CARD OF 'laws.FnStoreRefuse'. -/
def fnStoreRefuseCard : Claim7 := { stood := { row := fnStoreRefuseRow, standIns := [], harness := (true, "08779dcdb097a1d038f9686c2b9885f03a786510b04d58ace6304427e1590a60"), looks := true }, kinds := [], alts := [], laidByText := true, laidKinds := [.data, .data, .data, .sentinel, .sentinel], laidTests := true, laidLooks := .later }
def FnStoreRefuseCardSaid : Prop := Claim7.holds Tryz.pinned (.plain (OpenSpec.ofChange fnStoreRefuseSpec)) fnStoreRefuseCard

/-- THE SECOND FORM's CARD OF 'laws.FnStoreKeep'. -/
def fnStoreKeepUptoCard : Claim7 := { stood := { row := fnStoreKeepUptoRow, standIns := [], harness := (true, "08779dcdb097a1d038f9686c2b9885f03a786510b04d58ace6304427e1590a60"), looks := true }, kinds := [], alts := [], laidByText := true, laidKinds := [.data, .data, .data, .sentinel, .sentinel], laidTests := true, laidLooks := .later }
def FnStoreKeepUptoCardSaid : Prop := Claim7.holds Tryz.pinned (.plain (OpenSpec.upto fnStoreKeepSpec)) fnStoreKeepUptoCard

/-- THE SECOND FORM's CARD OF 'laws.FnStoreWhole'. -/
def fnStoreWholeUptoCard : Claim7 := { stood := { row := fnStoreWholeUptoRow, standIns := [], harness := (true, "08779dcdb097a1d038f9686c2b9885f03a786510b04d58ace6304427e1590a60"), looks := true }, kinds := [], alts := [], laidByText := true, laidKinds := [.data, .data, .data, .sentinel, .sentinel], laidTests := true, laidLooks := .later }
def FnStoreWholeUptoCardSaid : Prop := Claim7.holds Tryz.pinned (.plain (OpenSpec.upto fnStoreWholeSpec)) fnStoreWholeUptoCard

/-- THE SECOND FORM's CARD OF 'laws.FnStoreLog'. -/
def fnStoreLogUptoCard : Claim7 := { stood := { row := fnStoreLogUptoRow, standIns := [], harness := (true, "08779dcdb097a1d038f9686c2b9885f03a786510b04d58ace6304427e1590a60"), looks := true }, kinds := [], alts := [], laidByText := true, laidKinds := [.data, .data, .data, .sentinel, .sentinel], laidTests := true, laidLooks := .later }
def FnStoreLogUptoCardSaid : Prop := Claim7.holds Tryz.pinned (.plain (OpenSpec.upto fnStoreLogSpec)) fnStoreLogUptoCard

/-- THE SECOND FORM's CARD OF 'laws.FnStoreRefuse'. -/
def fnStoreRefuseUptoCard : Claim7 := { stood := { row := fnStoreRefuseUptoRow, standIns := [], harness := (true, "08779dcdb097a1d038f9686c2b9885f03a786510b04d58ace6304427e1590a60"), looks := true }, kinds := [], alts := [], laidByText := true, laidKinds := [.data, .data, .data, .sentinel, .sentinel], laidTests := true, laidLooks := .later }
def FnStoreRefuseUptoCardSaid : Prop := Claim7.holds Tryz.pinned (.plain (OpenSpec.upto fnStoreRefuseSpec)) fnStoreRefuseUptoCard
end Rows
end Go.Proofs.YtaaomkdcmncjnaaGreatDoor
