/-
  DERIVED. GIVEN WITH THE SEED: THE CARDS: each row of YtfmiaofafefblaaDoorRows.lean that lists a variable, with what it lists TIED to the program's text (the seventh form; the later family's looks); each row that meets fmt, with fmt's text TOLD by the authors' own Lean function (tested against real Go, not proved from fmt's source: count such statements apart). THE CARD IS WHAT COUNTS. Prove the row's statement (the work); the ties are given (YtfmiaofafefblaaDoorTie.lean); close each card by the builder's one call (the guide's Derived/Test/ToyasCard.lean, 'card_holds'). Laid BY PROGRAM, IN A SANDBOX (cutbox-door.mjs). By AI agents, Wed Nov 11 2026. No macro, syntax, notation, axiom, sorry.
-/
import Derived.Test.YtfmiaofafefblaaDoorRows
import GoSem.ClaimSeven
namespace Go.Proofs.YtfmiaofafefblaaDoor
namespace Rows

/-- THE TIED CARD OF 'laws.FnBookBound'. -/
def fnBookBoundCard : Claim7 := { stood := { row := fnBookBoundRow, standIns := [], harness := (true, "4e83b6a504e0a01b38dae9076f55f346502941beaf54a75e1d4924e49e919014"), looks := true }, kinds := [], alts := [], laidByText := true, laidKinds := [.handle], laidTests := true, laidLooks := .later }
def FnBookBoundCardSaid : Prop := Claim7.holds Tryd.pinned (.plain (OpenSpec.ofChange fnBookBoundSpec)) fnBookBoundCard

/-- THE TIED CARD OF 'laws.FnBookCut'. -/
def fnBookCutCard : Claim7 := { stood := { row := fnBookCutRow, standIns := [], harness := (true, "4e83b6a504e0a01b38dae9076f55f346502941beaf54a75e1d4924e49e919014"), looks := true }, kinds := [], alts := [], laidByText := true, laidKinds := [.handle], laidTests := true, laidLooks := .later }
def FnBookCutCardSaid : Prop := Claim7.holds Tryd.pinned (.plain (OpenSpec.ofChange fnBookCutSpec)) fnBookCutCard

/-- THE TIED CARD OF 'laws.FnBookCode'. -/
def fnBookCodeCard : Claim7 := { stood := { row := fnBookCodeRow, standIns := [], harness := (true, "4e83b6a504e0a01b38dae9076f55f346502941beaf54a75e1d4924e49e919014"), looks := true }, kinds := [], alts := [], laidByText := true, laidKinds := [.handle], laidTests := true, laidLooks := .later }
def FnBookCodeCardSaid : Prop := Claim7.holds Tryd.pinned (.plain (OpenSpec.ofChange fnBookCodeSpec)) fnBookCodeCard

/-- THE TIED CARD OF 'laws.FnBookBack'. -/
def fnBookBackCard : Claim7 := { stood := { row := fnBookBackRow, standIns := [], harness := (true, "4e83b6a504e0a01b38dae9076f55f346502941beaf54a75e1d4924e49e919014"), looks := true }, kinds := [], alts := [], laidByText := true, laidKinds := [.handle], laidTests := true, laidLooks := .later }
def FnBookBackCardSaid : Prop := Claim7.holds Tryd.pinned (.plain (OpenSpec.ofChange fnBookBackSpec)) fnBookBackCard

/-- THE TIED CARD OF 'laws.FnBookBal'. -/
def fnBookBalCard : Claim7 := { stood := { row := fnBookBalRow, standIns := [], harness := (true, "4e83b6a504e0a01b38dae9076f55f346502941beaf54a75e1d4924e49e919014"), looks := true }, kinds := [], alts := [], laidByText := true, laidKinds := [.handle], laidTests := true, laidLooks := .later }
def FnBookBalCardSaid : Prop := Claim7.holds Tryd.pinned (.plain (OpenSpec.ofChange fnBookBalSpec)) fnBookBalCard

/-- THE TIED CARD OF 'laws.FnBook'. -/
def fnBookCard : Claim7 := { stood := { row := fnBookRow, standIns := [], harness := (true, "4e83b6a504e0a01b38dae9076f55f346502941beaf54a75e1d4924e49e919014"), looks := true }, kinds := [], alts := [], laidByText := true, laidKinds := [.handle], laidTests := true, laidLooks := .later }
def FnBookCardSaid : Prop := Claim7.holds Tryd.pinned (.plain (OpenSpec.ofChange fnBookSpec)) fnBookCard

/-- THE TIED CARD OF 'laws.FnExactBookPost'. -/
def fnExactBookPostCard : Claim7 := { stood := { row := fnExactBookPostRow, standIns := [], harness := (true, "4e83b6a504e0a01b38dae9076f55f346502941beaf54a75e1d4924e49e919014"), looks := true }, kinds := [], alts := [], laidByText := true, laidKinds := [.handle], laidTests := true, laidLooks := .later }
def FnExactBookPostCardSaid : Prop := Claim7.holds Tryd.pinned (.plain (OpenSpec.ofChange fnExactBookPostSpec)) fnExactBookPostCard

/-- THE TIED CARD OF 'laws.FnBookFirst'. -/
def fnBookFirstCard : Claim7 := { stood := { row := fnBookFirstRow, standIns := [], harness := (true, "4e83b6a504e0a01b38dae9076f55f346502941beaf54a75e1d4924e49e919014"), looks := true }, kinds := [], alts := [], laidByText := true, laidKinds := [.handle], laidTests := true, laidLooks := .later }
def FnBookFirstCardSaid : Prop := Claim7.holds Tryd.pinned (.plain (OpenSpec.ofChange fnBookFirstSpec)) fnBookFirstCard

/-- THE TIED CARD OF 'laws.FnBookSwap'. -/
def fnBookSwapCard : Claim7 := { stood := { row := fnBookSwapRow, standIns := [], harness := (true, "4e83b6a504e0a01b38dae9076f55f346502941beaf54a75e1d4924e49e919014"), looks := true }, kinds := [], alts := [], laidByText := true, laidKinds := [.handle], laidTests := true, laidLooks := .later }
def FnBookSwapCardSaid : Prop := Claim7.holds Tryd.pinned (.plain (OpenSpec.ofChange fnBookSwapSpec)) fnBookSwapCard

/-- THE SECOND FORM's CARD OF 'laws.FnBookBound'. -/
def fnBookBoundUptoCard : Claim7 := { stood := { row := fnBookBoundUptoRow, standIns := [], harness := (true, "4e83b6a504e0a01b38dae9076f55f346502941beaf54a75e1d4924e49e919014"), looks := true }, kinds := [], alts := [], laidByText := true, laidKinds := [.handle], laidTests := true, laidLooks := .later }
def FnBookBoundUptoCardSaid : Prop := Claim7.holds Tryd.pinned (.plain (OpenSpec.upto fnBookBoundSpec)) fnBookBoundUptoCard

/-- THE SECOND FORM's CARD OF 'laws.FnBookCut'. -/
def fnBookCutUptoCard : Claim7 := { stood := { row := fnBookCutUptoRow, standIns := [], harness := (true, "4e83b6a504e0a01b38dae9076f55f346502941beaf54a75e1d4924e49e919014"), looks := true }, kinds := [], alts := [], laidByText := true, laidKinds := [.handle], laidTests := true, laidLooks := .later }
def FnBookCutUptoCardSaid : Prop := Claim7.holds Tryd.pinned (.plain (OpenSpec.upto fnBookCutSpec)) fnBookCutUptoCard

/-- THE SECOND FORM's CARD OF 'laws.FnBookCode'. -/
def fnBookCodeUptoCard : Claim7 := { stood := { row := fnBookCodeUptoRow, standIns := [], harness := (true, "4e83b6a504e0a01b38dae9076f55f346502941beaf54a75e1d4924e49e919014"), looks := true }, kinds := [], alts := [], laidByText := true, laidKinds := [.handle], laidTests := true, laidLooks := .later }
def FnBookCodeUptoCardSaid : Prop := Claim7.holds Tryd.pinned (.plain (OpenSpec.upto fnBookCodeSpec)) fnBookCodeUptoCard

/-- THE SECOND FORM's CARD OF 'laws.FnBookBack'. -/
def fnBookBackUptoCard : Claim7 := { stood := { row := fnBookBackUptoRow, standIns := [], harness := (true, "4e83b6a504e0a01b38dae9076f55f346502941beaf54a75e1d4924e49e919014"), looks := true }, kinds := [], alts := [], laidByText := true, laidKinds := [.handle], laidTests := true, laidLooks := .later }
def FnBookBackUptoCardSaid : Prop := Claim7.holds Tryd.pinned (.plain (OpenSpec.upto fnBookBackSpec)) fnBookBackUptoCard

/-- THE SECOND FORM's CARD OF 'laws.FnBookBal'. -/
def fnBookBalUptoCard : Claim7 := { stood := { row := fnBookBalUptoRow, standIns := [], harness := (true, "4e83b6a504e0a01b38dae9076f55f346502941beaf54a75e1d4924e49e919014"), looks := true }, kinds := [], alts := [], laidByText := true, laidKinds := [.handle], laidTests := true, laidLooks := .later }
def FnBookBalUptoCardSaid : Prop := Claim7.holds Tryd.pinned (.plain (OpenSpec.upto fnBookBalSpec)) fnBookBalUptoCard

/-- THE SECOND FORM's CARD OF 'laws.FnBook'. -/
def fnBookUptoCard : Claim7 := { stood := { row := fnBookUptoRow, standIns := [], harness := (true, "4e83b6a504e0a01b38dae9076f55f346502941beaf54a75e1d4924e49e919014"), looks := true }, kinds := [], alts := [], laidByText := true, laidKinds := [.handle], laidTests := true, laidLooks := .later }
def FnBookUptoCardSaid : Prop := Claim7.holds Tryd.pinned (.plain (OpenSpec.upto fnBookSpec)) fnBookUptoCard

/-- THE SECOND FORM's CARD OF 'laws.FnExactBookPost'. -/
def fnExactBookPostUptoCard : Claim7 := { stood := { row := fnExactBookPostUptoRow, standIns := [], harness := (true, "4e83b6a504e0a01b38dae9076f55f346502941beaf54a75e1d4924e49e919014"), looks := true }, kinds := [], alts := [], laidByText := true, laidKinds := [.handle], laidTests := true, laidLooks := .later }
def FnExactBookPostUptoCardSaid : Prop := Claim7.holds Tryd.pinned (.plain (OpenSpec.upto fnExactBookPostSpec)) fnExactBookPostUptoCard

/-- THE SECOND FORM's CARD OF 'laws.FnBookFirst'. -/
def fnBookFirstUptoCard : Claim7 := { stood := { row := fnBookFirstUptoRow, standIns := [], harness := (true, "4e83b6a504e0a01b38dae9076f55f346502941beaf54a75e1d4924e49e919014"), looks := true }, kinds := [], alts := [], laidByText := true, laidKinds := [.handle], laidTests := true, laidLooks := .later }
def FnBookFirstUptoCardSaid : Prop := Claim7.holds Tryd.pinned (.plain (OpenSpec.upto fnBookFirstSpec)) fnBookFirstUptoCard

/-- THE SECOND FORM's CARD OF 'laws.FnBookSwap'. -/
def fnBookSwapUptoCard : Claim7 := { stood := { row := fnBookSwapUptoRow, standIns := [], harness := (true, "4e83b6a504e0a01b38dae9076f55f346502941beaf54a75e1d4924e49e919014"), looks := true }, kinds := [], alts := [], laidByText := true, laidKinds := [.handle], laidTests := true, laidLooks := .later }
def FnBookSwapUptoCardSaid : Prop := Claim7.holds Tryd.pinned (.plain (OpenSpec.upto fnBookSwapSpec)) fnBookSwapUptoCard
end Rows
end Go.Proofs.YtfmiaofafefblaaDoor
