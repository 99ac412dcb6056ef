/-
  DERIVED. GIVEN WITH THE SEED: THE CARDS: each row of YtfkggoohajdabaaDoorRows.lean that lists a variable, with what it lists TIED to the program's text (the seventh form; the later family's looks); each row that meets fmt, with fmt's text TOLD by the authors' own Lean function (tested against real Go, not proved from fmt's source: count such statements apart). THE CARD IS WHAT COUNTS. Prove the row's statement (the work); the ties are given (YtfkggoohajdabaaDoorTie.lean); close each card by the builder's one call (the guide's Derived/Test/ToyasCard.lean, 'card_holds'). Laid BY PROGRAM, IN A SANDBOX (cutbox-door.mjs). By AI agents, Wed Nov 11 2026. No macro, syntax, notation, axiom, sorry.
-/
import Derived.Test.YtfkggoohajdabaaDoorRows
import GoSem.ClaimSeven
namespace Go.Proofs.YtfkggoohajdabaaDoor
namespace Rows

/-- THE TIED CARD OF 'graftagelaw10.HunkApplies'. -/
def hunkAppliesCard : Claim7 := { stood := { row := hunkAppliesRow, standIns := [], harness := (true, "c5c3b4e961576a7bdb4c4056d72c313eb3e08aa820786c50b7014f1f1f4c32b3"), looks := true }, kinds := [], alts := [], laidByText := true, laidKinds := [.data, .data, .data], laidTests := true, laidLooks := .later }
def HunkAppliesCardSaid : Prop := Claim7.holds Tryd.pinned (.plain (OpenSpec.ofChange hunkAppliesSpec)) hunkAppliesCard

/-- THE TIED CARD OF 'graftagelaw10.HunkElsewhere'. -/
def hunkElsewhereCard : Claim7 := { stood := { row := hunkElsewhereRow, standIns := [], harness := (true, "c5c3b4e961576a7bdb4c4056d72c313eb3e08aa820786c50b7014f1f1f4c32b3"), looks := true }, kinds := [], alts := [], laidByText := true, laidKinds := [.data, .data, .data], laidTests := true, laidLooks := .later }
def HunkElsewhereCardSaid : Prop := Claim7.holds Tryd.pinned (.plain (OpenSpec.ofChange hunkElsewhereSpec)) hunkElsewhereCard

/-- THE TIED CARD OF 'graftagelaw10.HunkOf'. -/
def hunkOfCard : Claim7 := { stood := { row := hunkOfRow, standIns := [], harness := (true, "c5c3b4e961576a7bdb4c4056d72c313eb3e08aa820786c50b7014f1f1f4c32b3"), looks := true }, kinds := [], alts := [], laidByText := true, laidKinds := [.data, .data, .data], laidTests := true, laidLooks := .later }
def HunkOfCardSaid : Prop := Claim7.holds Tryd.pinned (.plain (OpenSpec.ofChange hunkOfSpec)) hunkOfCard

/-- THE TIED CARD OF 'graftagelaw10.HunkThere'. -/
def hunkThereCard : Claim7 := { stood := { row := hunkThereRow, standIns := [], harness := (true, "c5c3b4e961576a7bdb4c4056d72c313eb3e08aa820786c50b7014f1f1f4c32b3"), looks := true }, kinds := [], alts := [], laidByText := true, laidKinds := [.data, .data, .data], laidTests := true, laidLooks := .later }
def HunkThereCardSaid : Prop := Claim7.holds Tryd.pinned (.plain (OpenSpec.ofChange hunkThereSpec)) hunkThereCard

/-- THE TIED CARD OF 'graftagelaw10.HunkTells'. -/
def hunkTellsCard : Claim7 := { stood := { row := hunkTellsRow, standIns := [], harness := (true, "c5c3b4e961576a7bdb4c4056d72c313eb3e08aa820786c50b7014f1f1f4c32b3"), looks := true }, kinds := [], alts := [], laidByText := true, laidKinds := [.data, .data, .data], laidTests := true, laidLooks := .later }
def HunkTellsCardSaid : Prop := Claim7.holds Tryd.pinned (.plain (OpenSpec.ofChange hunkTellsSpec)) hunkTellsCard

/-- THE TIED CARD OF 'graftagelaw10.HunkParses'. -/
def hunkParsesCard : Claim7 := { stood := { row := hunkParsesRow, standIns := [], harness := (true, "c5c3b4e961576a7bdb4c4056d72c313eb3e08aa820786c50b7014f1f1f4c32b3"), looks := true }, kinds := [], alts := [], laidByText := true, laidKinds := [.data, .data, .data, .sentinel, .sentinel], laidTests := true, laidLooks := .later }
def HunkParsesCardSaid : Prop := Claim7.holds Tryd.pinned (.plain (OpenSpec.ofChange hunkParsesSpec)) hunkParsesCard

/-- THE TIED CARD OF 'graftagelaw10.HunkBack'. -/
def hunkBackCard : Claim7 := { stood := { row := hunkBackRow, standIns := [], harness := (true, "c5c3b4e961576a7bdb4c4056d72c313eb3e08aa820786c50b7014f1f1f4c32b3"), looks := true }, kinds := [], alts := [], laidByText := true, laidKinds := [.data, .data, .data, .sentinel, .sentinel], laidTests := true, laidLooks := .later }
def HunkBackCardSaid : Prop := Claim7.holds Tryd.pinned (.plain (OpenSpec.ofChange hunkBackSpec)) hunkBackCard

/-- THE SECOND FORM's CARD OF 'graftagelaw10.HunkApplies'. -/
def hunkAppliesUptoCard : Claim7 := { stood := { row := hunkAppliesUptoRow, standIns := [], harness := (true, "c5c3b4e961576a7bdb4c4056d72c313eb3e08aa820786c50b7014f1f1f4c32b3"), looks := true }, kinds := [], alts := [], laidByText := true, laidKinds := [.data, .data, .data], laidTests := true, laidLooks := .later }
def HunkAppliesUptoCardSaid : Prop := Claim7.holds Tryd.pinned (.plain (OpenSpec.upto hunkAppliesSpec)) hunkAppliesUptoCard

/-- THE SECOND FORM's CARD OF 'graftagelaw10.HunkElsewhere'. -/
def hunkElsewhereUptoCard : Claim7 := { stood := { row := hunkElsewhereUptoRow, standIns := [], harness := (true, "c5c3b4e961576a7bdb4c4056d72c313eb3e08aa820786c50b7014f1f1f4c32b3"), looks := true }, kinds := [], alts := [], laidByText := true, laidKinds := [.data, .data, .data], laidTests := true, laidLooks := .later }
def HunkElsewhereUptoCardSaid : Prop := Claim7.holds Tryd.pinned (.plain (OpenSpec.upto hunkElsewhereSpec)) hunkElsewhereUptoCard

/-- THE SECOND FORM's CARD OF 'graftagelaw10.HunkOf'. -/
def hunkOfUptoCard : Claim7 := { stood := { row := hunkOfUptoRow, standIns := [], harness := (true, "c5c3b4e961576a7bdb4c4056d72c313eb3e08aa820786c50b7014f1f1f4c32b3"), looks := true }, kinds := [], alts := [], laidByText := true, laidKinds := [.data, .data, .data], laidTests := true, laidLooks := .later }
def HunkOfUptoCardSaid : Prop := Claim7.holds Tryd.pinned (.plain (OpenSpec.upto hunkOfSpec)) hunkOfUptoCard

/-- THE SECOND FORM's CARD OF 'graftagelaw10.HunkThere'. -/
def hunkThereUptoCard : Claim7 := { stood := { row := hunkThereUptoRow, standIns := [], harness := (true, "c5c3b4e961576a7bdb4c4056d72c313eb3e08aa820786c50b7014f1f1f4c32b3"), looks := true }, kinds := [], alts := [], laidByText := true, laidKinds := [.data, .data, .data], laidTests := true, laidLooks := .later }
def HunkThereUptoCardSaid : Prop := Claim7.holds Tryd.pinned (.plain (OpenSpec.upto hunkThereSpec)) hunkThereUptoCard

/-- THE SECOND FORM's CARD OF 'graftagelaw10.HunkTells'. -/
def hunkTellsUptoCard : Claim7 := { stood := { row := hunkTellsUptoRow, standIns := [], harness := (true, "c5c3b4e961576a7bdb4c4056d72c313eb3e08aa820786c50b7014f1f1f4c32b3"), looks := true }, kinds := [], alts := [], laidByText := true, laidKinds := [.data, .data, .data], laidTests := true, laidLooks := .later }
def HunkTellsUptoCardSaid : Prop := Claim7.holds Tryd.pinned (.plain (OpenSpec.upto hunkTellsSpec)) hunkTellsUptoCard

/-- THE SECOND FORM's CARD OF 'graftagelaw10.HunkParses'. -/
def hunkParsesUptoCard : Claim7 := { stood := { row := hunkParsesUptoRow, standIns := [], harness := (true, "c5c3b4e961576a7bdb4c4056d72c313eb3e08aa820786c50b7014f1f1f4c32b3"), looks := true }, kinds := [], alts := [], laidByText := true, laidKinds := [.data, .data, .data, .sentinel, .sentinel], laidTests := true, laidLooks := .later }
def HunkParsesUptoCardSaid : Prop := Claim7.holds Tryd.pinned (.plain (OpenSpec.upto hunkParsesSpec)) hunkParsesUptoCard

/-- THE SECOND FORM's CARD OF 'graftagelaw10.HunkBack'. -/
def hunkBackUptoCard : Claim7 := { stood := { row := hunkBackUptoRow, standIns := [], harness := (true, "c5c3b4e961576a7bdb4c4056d72c313eb3e08aa820786c50b7014f1f1f4c32b3"), looks := true }, kinds := [], alts := [], laidByText := true, laidKinds := [.data, .data, .data, .sentinel, .sentinel], laidTests := true, laidLooks := .later }
def HunkBackUptoCardSaid : Prop := Claim7.holds Tryd.pinned (.plain (OpenSpec.upto hunkBackSpec)) hunkBackUptoCard
end Rows
end Go.Proofs.YtfkggoohajdabaaDoor
