/-
  DERIVED. GIVEN WITH THE SEED: THE CARDS: each row of YtolghafejibajaaDoorRows.lean that lists a variable, with what it lists TIED to the program's text (the seventh form; the later family's looks); each row that meets fmt, with fmt's text TOLD by the authors' own Lean function (tested against real Go, not proved from fmt's source: count such statements apart). THE CARD IS WHAT COUNTS. Prove the row's statement (the work); the ties are given (YtolghafejibajaaDoorTie.lean); close each card by the builder's one call (the guide's Derived/Test/ToyasCard.lean, 'card_holds'). Laid BY PROGRAM, IN A SANDBOX (cutbox-door.mjs). By AI agents, Wed Nov 11 2026. No macro, syntax, notation, axiom, sorry.
-/
import Derived.Test.YtolghafejibajaaDoorRows
import GoSem.ClaimSeven
namespace Go.Proofs.YtolghafejibajaaDoor
namespace Rows

/-- THE TIED CARD OF 'graftagelaw05.LinesClean'. -/
def linesCleanCard : Claim7 := { stood := { row := linesCleanRow, standIns := [], harness := (true, "3f6c0391bef548c5441c6f1806994ae3dfc2c621e7e2ee93d7bff216c9a183a1"), looks := false }, kinds := [], alts := [], laidByText := true, laidKinds := [.data, .pinned], laidTests := true, laidLooks := .later }
def LinesCleanCardSaid : Prop := Claim7.holds Tryd.pinned (.plain (OpenSpec.ofChange linesCleanSpec)) linesCleanCard

/-- THE TIED CARD OF 'graftagelaw05.LinesTwice'. -/
def linesTwiceCard : Claim7 := { stood := { row := linesTwiceRow, standIns := [], harness := (true, "3f6c0391bef548c5441c6f1806994ae3dfc2c621e7e2ee93d7bff216c9a183a1"), looks := false }, kinds := [], alts := [], laidByText := true, laidKinds := [.data, .pinned], laidTests := true, laidLooks := .later }
def LinesTwiceCardSaid : Prop := Claim7.holds Tryd.pinned (.plain (OpenSpec.ofChange linesTwiceSpec)) linesTwiceCard

/-- THE TIED CARD OF 'graftagelaw05.LinesEnds'. -/
def linesEndsCard : Claim7 := { stood := { row := linesEndsRow, standIns := [], harness := (true, "3f6c0391bef548c5441c6f1806994ae3dfc2c621e7e2ee93d7bff216c9a183a1"), looks := false }, kinds := [], alts := [], laidByText := true, laidKinds := [.data, .pinned], laidTests := true, laidLooks := .later }
def LinesEndsCardSaid : Prop := Claim7.holds Tryd.pinned (.plain (OpenSpec.ofChange linesEndsSpec)) linesEndsCard

/-- THE TIED CARD OF 'graftagelaw05.LinesBack'. -/
def linesBackCard : Claim7 := { stood := { row := linesBackRow, standIns := [], harness := (true, "3f6c0391bef548c5441c6f1806994ae3dfc2c621e7e2ee93d7bff216c9a183a1"), looks := false }, kinds := [], alts := [], laidByText := true, laidKinds := [.data, .pinned], laidTests := true, laidLooks := .later }
def LinesBackCardSaid : Prop := Claim7.holds Tryd.pinned (.plain (OpenSpec.ofChange linesBackSpec)) linesBackCard

/-- THE TIED CARD OF 'graftagelaw07.GlobTells'. -/
def globTellsCard : Claim7 := { stood := { row := globTellsRow, standIns := [], harness := (true, "3f6c0391bef548c5441c6f1806994ae3dfc2c621e7e2ee93d7bff216c9a183a1"), looks := false }, kinds := [], alts := [], laidByText := true, laidKinds := [.data, .pinned], laidTests := true, laidLooks := .later }
def GlobTellsCardSaid : Prop := Claim7.holds Tryd.pinned (.plain (OpenSpec.ofChange globTellsSpec)) globTellsCard

/-- THE TIED CARD OF 'graftagelaw07.GlobMatches'. -/
def globMatchesCard : Claim7 := { stood := { row := globMatchesRow, standIns := [], harness := (true, "3f6c0391bef548c5441c6f1806994ae3dfc2c621e7e2ee93d7bff216c9a183a1"), looks := false }, kinds := [], alts := [], laidByText := true, laidKinds := [.data, .pinned], laidTests := true, laidLooks := .later }
def GlobMatchesCardSaid : Prop := Claim7.holds Tryd.pinned (.plain (OpenSpec.ofChange globMatchesSpec)) globMatchesCard

/-- THE TIED CARD OF 'graftagelaw07.GlobLiteral'. -/
def globLiteralCard : Claim7 := { stood := { row := globLiteralRow, standIns := [], harness := (true, "3f6c0391bef548c5441c6f1806994ae3dfc2c621e7e2ee93d7bff216c9a183a1"), looks := false }, kinds := [], alts := [], laidByText := true, laidKinds := [.data, .pinned], laidTests := true, laidLooks := .later }
def GlobLiteralCardSaid : Prop := Claim7.holds Tryd.pinned (.plain (OpenSpec.ofChange globLiteralSpec)) globLiteralCard

/-- THE TIED CARD OF 'graftagelaw07.GlobDeep'. -/
def globDeepCard : Claim7 := { stood := { row := globDeepRow, standIns := [], harness := (true, "3f6c0391bef548c5441c6f1806994ae3dfc2c621e7e2ee93d7bff216c9a183a1"), looks := false }, kinds := [], alts := [], laidByText := true, laidKinds := [.data, .pinned], laidTests := true, laidLooks := .later }
def GlobDeepCardSaid : Prop := Claim7.holds Tryd.pinned (.plain (OpenSpec.ofChange globDeepSpec)) globDeepCard

/-- THE TIED CARD OF 'graftagelaw05.LinesTidy'. -/
def linesTidyCard : Claim7 := { stood := { row := linesTidyRow, standIns := [], harness := (true, "3f6c0391bef548c5441c6f1806994ae3dfc2c621e7e2ee93d7bff216c9a183a1"), looks := false }, kinds := [], alts := [], laidByText := true, laidKinds := [.data, .pinned], laidTests := true, laidLooks := .later }
def LinesTidyCardSaid : Prop := Claim7.holds Tryd.pinned (.plain (OpenSpec.ofChange linesTidySpec)) linesTidyCard

/-- THE TIED CARD OF 'graftagelaw05.LinesSplit'. -/
def linesSplitCard : Claim7 := { stood := { row := linesSplitRow, standIns := [], harness := (true, "3f6c0391bef548c5441c6f1806994ae3dfc2c621e7e2ee93d7bff216c9a183a1"), looks := false }, kinds := [], alts := [], laidByText := true, laidKinds := [.data, .pinned], laidTests := true, laidLooks := .later }
def LinesSplitCardSaid : Prop := Claim7.holds Tryd.pinned (.plain (OpenSpec.ofChange linesSplitSpec)) linesSplitCard

/-- THE TIED CARD OF 'graftagelaw07.GlobParts'. -/
def globPartsCard : Claim7 := { stood := { row := globPartsRow, standIns := [], harness := (true, "3f6c0391bef548c5441c6f1806994ae3dfc2c621e7e2ee93d7bff216c9a183a1"), looks := false }, kinds := [], alts := [], laidByText := true, laidKinds := [.data, .pinned], laidTests := true, laidLooks := .later }
def GlobPartsCardSaid : Prop := Claim7.holds Tryd.pinned (.plain (OpenSpec.ofChange globPartsSpec)) globPartsCard

/-- THE TIED CARD OF 'graftagelaw07.GlobStars'. -/
def globStarsCard : Claim7 := { stood := { row := globStarsRow, standIns := [], harness := (true, "3f6c0391bef548c5441c6f1806994ae3dfc2c621e7e2ee93d7bff216c9a183a1"), looks := false }, kinds := [], alts := [], laidByText := true, laidKinds := [.data, .pinned], laidTests := true, laidLooks := .later }
def GlobStarsCardSaid : Prop := Claim7.holds Tryd.pinned (.plain (OpenSpec.ofChange globStarsSpec)) globStarsCard

/-- THE TIED CARD OF 'graftagelaw07.GlobSingle'. -/
def globSingleCard : Claim7 := { stood := { row := globSingleRow, standIns := [], harness := (true, "3f6c0391bef548c5441c6f1806994ae3dfc2c621e7e2ee93d7bff216c9a183a1"), looks := false }, kinds := [], alts := [], laidByText := true, laidKinds := [.data, .pinned], laidTests := true, laidLooks := .later }
def GlobSingleCardSaid : Prop := Claim7.holds Tryd.pinned (.plain (OpenSpec.ofChange globSingleSpec)) globSingleCard

/-- THE SECOND FORM's CARD OF 'graftagelaw05.LinesClean'. -/
def linesCleanUptoCard : Claim7 := { stood := { row := linesCleanUptoRow, standIns := [], harness := (true, "3f6c0391bef548c5441c6f1806994ae3dfc2c621e7e2ee93d7bff216c9a183a1"), looks := false }, kinds := [], alts := [], laidByText := true, laidKinds := [.data, .pinned], laidTests := true, laidLooks := .later }
def LinesCleanUptoCardSaid : Prop := Claim7.holds Tryd.pinned (.plain (OpenSpec.upto linesCleanSpec)) linesCleanUptoCard

/-- THE SECOND FORM's CARD OF 'graftagelaw05.LinesTwice'. -/
def linesTwiceUptoCard : Claim7 := { stood := { row := linesTwiceUptoRow, standIns := [], harness := (true, "3f6c0391bef548c5441c6f1806994ae3dfc2c621e7e2ee93d7bff216c9a183a1"), looks := false }, kinds := [], alts := [], laidByText := true, laidKinds := [.data, .pinned], laidTests := true, laidLooks := .later }
def LinesTwiceUptoCardSaid : Prop := Claim7.holds Tryd.pinned (.plain (OpenSpec.upto linesTwiceSpec)) linesTwiceUptoCard

/-- THE SECOND FORM's CARD OF 'graftagelaw05.LinesEnds'. -/
def linesEndsUptoCard : Claim7 := { stood := { row := linesEndsUptoRow, standIns := [], harness := (true, "3f6c0391bef548c5441c6f1806994ae3dfc2c621e7e2ee93d7bff216c9a183a1"), looks := false }, kinds := [], alts := [], laidByText := true, laidKinds := [.data, .pinned], laidTests := true, laidLooks := .later }
def LinesEndsUptoCardSaid : Prop := Claim7.holds Tryd.pinned (.plain (OpenSpec.upto linesEndsSpec)) linesEndsUptoCard

/-- THE SECOND FORM's CARD OF 'graftagelaw05.LinesBack'. -/
def linesBackUptoCard : Claim7 := { stood := { row := linesBackUptoRow, standIns := [], harness := (true, "3f6c0391bef548c5441c6f1806994ae3dfc2c621e7e2ee93d7bff216c9a183a1"), looks := false }, kinds := [], alts := [], laidByText := true, laidKinds := [.data, .pinned], laidTests := true, laidLooks := .later }
def LinesBackUptoCardSaid : Prop := Claim7.holds Tryd.pinned (.plain (OpenSpec.upto linesBackSpec)) linesBackUptoCard

/-- THE SECOND FORM's CARD OF 'graftagelaw07.GlobTells'. -/
def globTellsUptoCard : Claim7 := { stood := { row := globTellsUptoRow, standIns := [], harness := (true, "3f6c0391bef548c5441c6f1806994ae3dfc2c621e7e2ee93d7bff216c9a183a1"), looks := false }, kinds := [], alts := [], laidByText := true, laidKinds := [.data, .pinned], laidTests := true, laidLooks := .later }
def GlobTellsUptoCardSaid : Prop := Claim7.holds Tryd.pinned (.plain (OpenSpec.upto globTellsSpec)) globTellsUptoCard

/-- THE SECOND FORM's CARD OF 'graftagelaw07.GlobMatches'. -/
def globMatchesUptoCard : Claim7 := { stood := { row := globMatchesUptoRow, standIns := [], harness := (true, "3f6c0391bef548c5441c6f1806994ae3dfc2c621e7e2ee93d7bff216c9a183a1"), looks := false }, kinds := [], alts := [], laidByText := true, laidKinds := [.data, .pinned], laidTests := true, laidLooks := .later }
def GlobMatchesUptoCardSaid : Prop := Claim7.holds Tryd.pinned (.plain (OpenSpec.upto globMatchesSpec)) globMatchesUptoCard

/-- THE SECOND FORM's CARD OF 'graftagelaw07.GlobLiteral'. -/
def globLiteralUptoCard : Claim7 := { stood := { row := globLiteralUptoRow, standIns := [], harness := (true, "3f6c0391bef548c5441c6f1806994ae3dfc2c621e7e2ee93d7bff216c9a183a1"), looks := false }, kinds := [], alts := [], laidByText := true, laidKinds := [.data, .pinned], laidTests := true, laidLooks := .later }
def GlobLiteralUptoCardSaid : Prop := Claim7.holds Tryd.pinned (.plain (OpenSpec.upto globLiteralSpec)) globLiteralUptoCard

/-- THE SECOND FORM's CARD OF 'graftagelaw07.GlobDeep'. -/
def globDeepUptoCard : Claim7 := { stood := { row := globDeepUptoRow, standIns := [], harness := (true, "3f6c0391bef548c5441c6f1806994ae3dfc2c621e7e2ee93d7bff216c9a183a1"), looks := false }, kinds := [], alts := [], laidByText := true, laidKinds := [.data, .pinned], laidTests := true, laidLooks := .later }
def GlobDeepUptoCardSaid : Prop := Claim7.holds Tryd.pinned (.plain (OpenSpec.upto globDeepSpec)) globDeepUptoCard

/-- THE SECOND FORM's CARD OF 'graftagelaw05.LinesTidy'. -/
def linesTidyUptoCard : Claim7 := { stood := { row := linesTidyUptoRow, standIns := [], harness := (true, "3f6c0391bef548c5441c6f1806994ae3dfc2c621e7e2ee93d7bff216c9a183a1"), looks := false }, kinds := [], alts := [], laidByText := true, laidKinds := [.data, .pinned], laidTests := true, laidLooks := .later }
def LinesTidyUptoCardSaid : Prop := Claim7.holds Tryd.pinned (.plain (OpenSpec.upto linesTidySpec)) linesTidyUptoCard

/-- THE SECOND FORM's CARD OF 'graftagelaw05.LinesSplit'. -/
def linesSplitUptoCard : Claim7 := { stood := { row := linesSplitUptoRow, standIns := [], harness := (true, "3f6c0391bef548c5441c6f1806994ae3dfc2c621e7e2ee93d7bff216c9a183a1"), looks := false }, kinds := [], alts := [], laidByText := true, laidKinds := [.data, .pinned], laidTests := true, laidLooks := .later }
def LinesSplitUptoCardSaid : Prop := Claim7.holds Tryd.pinned (.plain (OpenSpec.upto linesSplitSpec)) linesSplitUptoCard

/-- THE SECOND FORM's CARD OF 'graftagelaw07.GlobParts'. -/
def globPartsUptoCard : Claim7 := { stood := { row := globPartsUptoRow, standIns := [], harness := (true, "3f6c0391bef548c5441c6f1806994ae3dfc2c621e7e2ee93d7bff216c9a183a1"), looks := false }, kinds := [], alts := [], laidByText := true, laidKinds := [.data, .pinned], laidTests := true, laidLooks := .later }
def GlobPartsUptoCardSaid : Prop := Claim7.holds Tryd.pinned (.plain (OpenSpec.upto globPartsSpec)) globPartsUptoCard

/-- THE SECOND FORM's CARD OF 'graftagelaw07.GlobStars'. -/
def globStarsUptoCard : Claim7 := { stood := { row := globStarsUptoRow, standIns := [], harness := (true, "3f6c0391bef548c5441c6f1806994ae3dfc2c621e7e2ee93d7bff216c9a183a1"), looks := false }, kinds := [], alts := [], laidByText := true, laidKinds := [.data, .pinned], laidTests := true, laidLooks := .later }
def GlobStarsUptoCardSaid : Prop := Claim7.holds Tryd.pinned (.plain (OpenSpec.upto globStarsSpec)) globStarsUptoCard

/-- THE SECOND FORM's CARD OF 'graftagelaw07.GlobSingle'. -/
def globSingleUptoCard : Claim7 := { stood := { row := globSingleUptoRow, standIns := [], harness := (true, "3f6c0391bef548c5441c6f1806994ae3dfc2c621e7e2ee93d7bff216c9a183a1"), looks := false }, kinds := [], alts := [], laidByText := true, laidKinds := [.data, .pinned], laidTests := true, laidLooks := .later }
def GlobSingleUptoCardSaid : Prop := Claim7.holds Tryd.pinned (.plain (OpenSpec.upto globSingleSpec)) globSingleUptoCard
end Rows
end Go.Proofs.YtolghafejibajaaDoor
