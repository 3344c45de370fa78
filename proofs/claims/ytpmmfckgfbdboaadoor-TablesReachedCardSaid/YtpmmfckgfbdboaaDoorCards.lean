/-
  DERIVED. GIVEN WITH THE SEED: THE CARDS: each row of YtpmmfckgfbdboaaDoorRows.lean that lists a variable, with what it lists TIED to the program's text (the seventh form; the later family's looks); each row that meets fmt, with fmt's text TOLD by the authors' own Lean function (tested against real Go, not proved from fmt's source: count such statements apart). THE CARD IS WHAT COUNTS. Prove the row's statement (the work); the ties are given (YtpmmfckgfbdboaaDoorTie.lean); close each card by the builder's one call (the guide's Derived/Test/ToyasCard.lean, 'card_holds'). Laid BY PROGRAM, IN A SANDBOX (cutbox-door.mjs). By AI agents, Wed Nov 11 2026. No macro, syntax, notation, axiom, sorry.
-/
import Derived.Test.YtpmmfckgfbdboaaDoorRows
import GoSem.ClaimSeven
namespace Go.Proofs.YtpmmfckgfbdboaaDoor
namespace Rows

/-- THE TIED CARD OF 'comfitlaw05.TablesStates'. -/
def tablesStatesCard : Claim7 := { stood := { row := tablesStatesRow, standIns := [], harness := (true, "131ea2128700de14cc921311abaabbdde0df85fb72f02615180c9af20f49688a"), looks := false }, kinds := [], alts := [], laidByText := true, laidKinds := [.data, .pinned], laidTests := true, laidLooks := .later }
def TablesStatesCardSaid : Prop := Claim7.holds Tryd.pinned (.plain (OpenSpec.ofChange tablesStatesSpec)) tablesStatesCard

/-- THE TIED CARD OF 'comfitlaw05.TablesReached'. -/
def tablesReachedCard : Claim7 := { stood := { row := tablesReachedRow, standIns := [], harness := (true, "131ea2128700de14cc921311abaabbdde0df85fb72f02615180c9af20f49688a"), looks := false }, kinds := [], alts := [], laidByText := true, laidKinds := [.data, .pinned], laidTests := true, laidLooks := .later }
def TablesReachedCardSaid : Prop := Claim7.holds Tryd.pinned (.plain (OpenSpec.ofChange tablesReachedSpec)) tablesReachedCard

/-- THE TIED CARD OF 'comfitlaw05.TablesGo'. -/
def tablesGoCard : Claim7 := { stood := { row := tablesGoRow, standIns := [], harness := (true, "131ea2128700de14cc921311abaabbdde0df85fb72f02615180c9af20f49688a"), looks := false }, kinds := [], alts := [], laidByText := true, laidKinds := [.data, .pinned], laidTests := true, laidLooks := .later }
def TablesGoCardSaid : Prop := Claim7.holds Tryd.pinned (.plain (OpenSpec.ofChange tablesGoSpec)) tablesGoCard

/-- THE TIED CARD OF 'comfitlaw05.TablesRenamed'. -/
def tablesRenamedCard : Claim7 := { stood := { row := tablesRenamedRow, standIns := [], harness := (true, "131ea2128700de14cc921311abaabbdde0df85fb72f02615180c9af20f49688a"), looks := false }, kinds := [], alts := [], laidByText := true, laidKinds := [.data, .pinned], laidTests := true, laidLooks := .later }
def TablesRenamedCardSaid : Prop := Claim7.holds Tryd.pinned (.plain (OpenSpec.ofChange tablesRenamedSpec)) tablesRenamedCard

/-- THE TIED CARD OF 'comfitlaw05.TablesReads'. -/
def tablesReadsCard : Claim7 := { stood := { row := tablesReadsRow, standIns := [], harness := (true, "131ea2128700de14cc921311abaabbdde0df85fb72f02615180c9af20f49688a"), looks := false }, kinds := [], alts := [], laidByText := true, laidKinds := [.data, .pinned], laidTests := true, laidLooks := .later }
def TablesReadsCardSaid : Prop := Claim7.holds Tryd.pinned (.plain (OpenSpec.ofChange tablesReadsSpec)) tablesReadsCard

/-- THE TIED CARD OF 'comfitlaw05.TablesMakes'. -/
def tablesMakesCard : Claim7 := { stood := { row := tablesMakesRow, standIns := [], harness := (true, "131ea2128700de14cc921311abaabbdde0df85fb72f02615180c9af20f49688a"), looks := false }, kinds := [], alts := [], laidByText := true, laidKinds := [.data, .pinned], laidTests := true, laidLooks := .later }
def TablesMakesCardSaid : Prop := Claim7.holds Tryd.pinned (.plain (OpenSpec.ofChange tablesMakesSpec)) tablesMakesCard

/-- THE TIED CARD OF 'comfitlaw05.TablesDoubled'. -/
def tablesDoubledCard : Claim7 := { stood := { row := tablesDoubledRow, standIns := [], harness := (true, "131ea2128700de14cc921311abaabbdde0df85fb72f02615180c9af20f49688a"), looks := false }, kinds := [], alts := [], laidByText := true, laidKinds := [.data, .pinned], laidTests := true, laidLooks := .later }
def TablesDoubledCardSaid : Prop := Claim7.holds Tryd.pinned (.plain (OpenSpec.ofChange tablesDoubledSpec)) tablesDoubledCard

/-- THE TIED CARD OF 'comfitlaw05.TablesDecides'. -/
def tablesDecidesCard : Claim7 := { stood := { row := tablesDecidesRow, standIns := [], harness := (true, "131ea2128700de14cc921311abaabbdde0df85fb72f02615180c9af20f49688a"), looks := false }, kinds := [], alts := [], laidByText := true, laidKinds := [.data, .pinned], laidTests := true, laidLooks := .later }
def TablesDecidesCardSaid : Prop := Claim7.holds Tryd.pinned (.plain (OpenSpec.ofChange tablesDecidesSpec)) tablesDecidesCard

/-- THE TIED CARD OF 'comfitlaw07.MouldsLaid'. -/
def mouldsLaidCard : Claim7 := { stood := { row := mouldsLaidRow, standIns := [], harness := (true, "131ea2128700de14cc921311abaabbdde0df85fb72f02615180c9af20f49688a"), looks := false }, kinds := [], alts := [], laidByText := true, laidKinds := [.data, .pinned], laidTests := true, laidLooks := .later }
def MouldsLaidCardSaid : Prop := Claim7.holds Tryd.pinned (.plain (OpenSpec.ofChange mouldsLaidSpec)) mouldsLaidCard

/-- THE TIED CARD OF 'comfitlaw07.MouldsRound'. -/
def mouldsRoundCard : Claim7 := { stood := { row := mouldsRoundRow, standIns := [], harness := (true, "131ea2128700de14cc921311abaabbdde0df85fb72f02615180c9af20f49688a"), looks := false }, kinds := [], alts := [], laidByText := true, laidKinds := [.data, .pinned], laidTests := true, laidLooks := .later }
def MouldsRoundCardSaid : Prop := Claim7.holds Tryd.pinned (.plain (OpenSpec.ofChange mouldsRoundSpec)) mouldsRoundCard

/-- THE SECOND FORM's CARD OF 'comfitlaw05.TablesStates'. -/
def tablesStatesUptoCard : Claim7 := { stood := { row := tablesStatesUptoRow, standIns := [], harness := (true, "131ea2128700de14cc921311abaabbdde0df85fb72f02615180c9af20f49688a"), looks := false }, kinds := [], alts := [], laidByText := true, laidKinds := [.data, .pinned], laidTests := true, laidLooks := .later }
def TablesStatesUptoCardSaid : Prop := Claim7.holds Tryd.pinned (.plain (OpenSpec.upto tablesStatesSpec)) tablesStatesUptoCard

/-- THE SECOND FORM's CARD OF 'comfitlaw05.TablesReached'. -/
def tablesReachedUptoCard : Claim7 := { stood := { row := tablesReachedUptoRow, standIns := [], harness := (true, "131ea2128700de14cc921311abaabbdde0df85fb72f02615180c9af20f49688a"), looks := false }, kinds := [], alts := [], laidByText := true, laidKinds := [.data, .pinned], laidTests := true, laidLooks := .later }
def TablesReachedUptoCardSaid : Prop := Claim7.holds Tryd.pinned (.plain (OpenSpec.upto tablesReachedSpec)) tablesReachedUptoCard

/-- THE SECOND FORM's CARD OF 'comfitlaw05.TablesGo'. -/
def tablesGoUptoCard : Claim7 := { stood := { row := tablesGoUptoRow, standIns := [], harness := (true, "131ea2128700de14cc921311abaabbdde0df85fb72f02615180c9af20f49688a"), looks := false }, kinds := [], alts := [], laidByText := true, laidKinds := [.data, .pinned], laidTests := true, laidLooks := .later }
def TablesGoUptoCardSaid : Prop := Claim7.holds Tryd.pinned (.plain (OpenSpec.upto tablesGoSpec)) tablesGoUptoCard

/-- THE SECOND FORM's CARD OF 'comfitlaw05.TablesRenamed'. -/
def tablesRenamedUptoCard : Claim7 := { stood := { row := tablesRenamedUptoRow, standIns := [], harness := (true, "131ea2128700de14cc921311abaabbdde0df85fb72f02615180c9af20f49688a"), looks := false }, kinds := [], alts := [], laidByText := true, laidKinds := [.data, .pinned], laidTests := true, laidLooks := .later }
def TablesRenamedUptoCardSaid : Prop := Claim7.holds Tryd.pinned (.plain (OpenSpec.upto tablesRenamedSpec)) tablesRenamedUptoCard

/-- THE SECOND FORM's CARD OF 'comfitlaw05.TablesReads'. -/
def tablesReadsUptoCard : Claim7 := { stood := { row := tablesReadsUptoRow, standIns := [], harness := (true, "131ea2128700de14cc921311abaabbdde0df85fb72f02615180c9af20f49688a"), looks := false }, kinds := [], alts := [], laidByText := true, laidKinds := [.data, .pinned], laidTests := true, laidLooks := .later }
def TablesReadsUptoCardSaid : Prop := Claim7.holds Tryd.pinned (.plain (OpenSpec.upto tablesReadsSpec)) tablesReadsUptoCard

/-- THE SECOND FORM's CARD OF 'comfitlaw05.TablesMakes'. -/
def tablesMakesUptoCard : Claim7 := { stood := { row := tablesMakesUptoRow, standIns := [], harness := (true, "131ea2128700de14cc921311abaabbdde0df85fb72f02615180c9af20f49688a"), looks := false }, kinds := [], alts := [], laidByText := true, laidKinds := [.data, .pinned], laidTests := true, laidLooks := .later }
def TablesMakesUptoCardSaid : Prop := Claim7.holds Tryd.pinned (.plain (OpenSpec.upto tablesMakesSpec)) tablesMakesUptoCard

/-- THE SECOND FORM's CARD OF 'comfitlaw05.TablesDoubled'. -/
def tablesDoubledUptoCard : Claim7 := { stood := { row := tablesDoubledUptoRow, standIns := [], harness := (true, "131ea2128700de14cc921311abaabbdde0df85fb72f02615180c9af20f49688a"), looks := false }, kinds := [], alts := [], laidByText := true, laidKinds := [.data, .pinned], laidTests := true, laidLooks := .later }
def TablesDoubledUptoCardSaid : Prop := Claim7.holds Tryd.pinned (.plain (OpenSpec.upto tablesDoubledSpec)) tablesDoubledUptoCard

/-- THE SECOND FORM's CARD OF 'comfitlaw05.TablesDecides'. -/
def tablesDecidesUptoCard : Claim7 := { stood := { row := tablesDecidesUptoRow, standIns := [], harness := (true, "131ea2128700de14cc921311abaabbdde0df85fb72f02615180c9af20f49688a"), looks := false }, kinds := [], alts := [], laidByText := true, laidKinds := [.data, .pinned], laidTests := true, laidLooks := .later }
def TablesDecidesUptoCardSaid : Prop := Claim7.holds Tryd.pinned (.plain (OpenSpec.upto tablesDecidesSpec)) tablesDecidesUptoCard

/-- THE SECOND FORM's CARD OF 'comfitlaw07.MouldsLaid'. -/
def mouldsLaidUptoCard : Claim7 := { stood := { row := mouldsLaidUptoRow, standIns := [], harness := (true, "131ea2128700de14cc921311abaabbdde0df85fb72f02615180c9af20f49688a"), looks := false }, kinds := [], alts := [], laidByText := true, laidKinds := [.data, .pinned], laidTests := true, laidLooks := .later }
def MouldsLaidUptoCardSaid : Prop := Claim7.holds Tryd.pinned (.plain (OpenSpec.upto mouldsLaidSpec)) mouldsLaidUptoCard

/-- THE SECOND FORM's CARD OF 'comfitlaw07.MouldsRound'. -/
def mouldsRoundUptoCard : Claim7 := { stood := { row := mouldsRoundUptoRow, standIns := [], harness := (true, "131ea2128700de14cc921311abaabbdde0df85fb72f02615180c9af20f49688a"), looks := false }, kinds := [], alts := [], laidByText := true, laidKinds := [.data, .pinned], laidTests := true, laidLooks := .later }
def MouldsRoundUptoCardSaid : Prop := Claim7.holds Tryd.pinned (.plain (OpenSpec.upto mouldsRoundSpec)) mouldsRoundUptoCard
end Rows
end Go.Proofs.YtpmmfckgfbdboaaDoor
